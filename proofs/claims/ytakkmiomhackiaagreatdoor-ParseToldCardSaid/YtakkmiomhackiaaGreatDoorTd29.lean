/-
  The program, one part of its walk. Conditions: none.
-/
import Derived.Test.YtakkmiomhackiaaGreatDoorTd21
import Derived.Test.YtakkmiomhackiaaGreatDoorTd22
set_option linter.all false
set_option maxRecDepth 100000
set_option maxHeartbeats 16000000
open Go.Proofs.Tryz
open BitVec renaming ofInt->ee
open Bool renaming false->ae,true->av
open Go renaming Addr->ak,Calls->K,Ending->ar,Value->Z,World->S,bodyPost_ret->bh,bytesRow->dj,grownCap->bj,maxLen->dt,results_none->bu
open Go.Addr renaming add->dp
open Go.Ending renaming returned->ac
open Go.Fn renaming func->az
open Go.Instr renaming typeAssert->cv
open Go.IntKind renaming bits->ei,i32->V,i64->O,signed->ej,u8->ah,wrap->eh,wrap_i64->dx
open Go.Obj renaming cells->X
open Go.Proofs.Tryz renaming func117->bx,func151->dh,func188->bk,func204->co,func80->ct,func84->cw,ntmps117->bz,ntmps151->di,ntmps188->bm,ntmps204->cr,ntmps80->cu,ntmps84->cz,prog->W,underlying9->dy
open Go.Proofs.YtakkmiomhackiaaGreatDoor.Keeps renaming A1->ba,A3->H
open Go.RowKit renaming Below->au,wrap32->bg
open Go.RowKit.Below renaming refl->aj
open Go.Value renaming bool->bp,func->aw,iface->ao,int->J,nilIface->ag,pointer->Y,slice->E,tuple->af
open Go.World renaming setCell->bs
open List renaming getElem?_map->dm,length_append->dv,length_map->dl,map_append->du,mem_map->dq,setIfInBounds_toArray->cg,set_cons_succ->ck,set_cons_zero->cj
open Nat renaming le_refl->bw,le_trans->bc,lt_of_lt_of_le->dw
open Option renaming none->I,some->N
open Or renaming inl->U,inr->ai
namespace Go.Proofs.YtakkmiomhackiaaGreatDoor
open Go.RowKit
section
def cM(no a:Nat):Z:=ao 151 (.agg #[J O no,J O a])
section
variable {F:Nat->Prop} {w:S} {b:Nat} {x:Lx} {dn:Bool} {toks:List Tok}
theorem cE.F6(h:cE F w b x dn toks):w.cell? ⟨b,0,I⟩=N (J O x.place)/\w.cell? ⟨b,1,I⟩=N ag/\w.cell? ⟨b,2,I⟩=N (bp dn)/\w.cell? ⟨b,4,I⟩=N (bp x.isIn)/\w.cell? ⟨b,5,I⟩=N (J O x.start)/\∀o,w.frozen? ⟨b,o,I⟩=ae:=by
 obtain⟨-,-,d,f,a,c,e,_⟩:=h;obtain⟨k,c1,c2,-,j,i,-,-,-,-,-,-,-,-,g⟩:=aM e;exact⟨k,c1,c2,j,i,g⟩
theorem cE.I9(h:cE F w b x dn toks):cE F (w.setCell ⟨b,1,I⟩ ag) b x dn toks:=by
 obtain⟨y,j,i,n,c,g,d,o,s⟩:=h;have a:Keeps (λk=>k=b) w (w.setCell ⟨b,1,I⟩ ag):=(H (λk=>k=b) w).A2 (p:=⟨b,1,I⟩) (U rfl) _;refine⟨y,λk l=>dw (j k l) a.size,i,n,c,g,aB d _,⟨o.1.A0 a (λk e a=>o.1.ne d (by decide) (e.trans (congrArg N a))),o.2⟩,⟨λh=>?_,λh=>?_⟩⟩
 .have q:=s.raw h;exact⟨q.1.A0 a (λk e a=>q.1.ne d (by decide) (e.trans (congrArg N a))),q.2⟩
 .obtain⟨m,f,pl,t,r,u,v⟩:=s.text h;refine⟨⟨m.1.A0 a (λk e a=>m.1.ne d (by decide) (e.trans (congrArg N a))),m.2⟩,f,pl,t,r.A0 a (λe=>?_),u,v⟩;subst e;obtain⟨_,A,a1,a2,a3,z,_⟩:=r;rw[z]at d;simp at d
theorem dR.I9{pl st:Nat}{a:Z}(h:dR F w b pl st a toks)(u:Z):dR F (w.setCell ⟨b,1,I⟩ u) b pl st u toks:=by
 obtain⟨r,f,s,l,v,m,q,y,n,t,o,x,c,j,i⟩:=h;have d:Keeps (λk=>k=b) w (w.setCell ⟨b,1,I⟩ u):=(H (λk=>k=b) w).A2 (p:=⟨b,1,I⟩) (U rfl) _;exact⟨r,λk g=>dw (f k g) d.size,s,l,v,m,q,y,n,t,o,x,c,aB j _,⟨i.1.A0 d (λk e d=>i.1.ne j (by decide) (e.trans (congrArg N d))),i.2⟩⟩
theorem dR.F6{pl st:Nat}{a:Z}(h:dR F w b pl st a toks):w.cell? ⟨b,1,I⟩=N a/\∀o,w.frozen? ⟨b,o,I⟩=ae:=by
 obtain⟨-,-,l,f,n,g,k,q,i,m,j,p,c,d,-⟩:=h;obtain⟨-,c1,-,-,-,-,-,-,-,-,-,-,-,-,e⟩:=aM d;exact⟨c1,e⟩
end
theorem aCE(F:Nat->Prop)(w:S)(b g off:Nat)(x:Lx)(toks:List Tok)(c:UInt8)(h:cE F w b x ae toks)(z:w.cell? ⟨g,off,I⟩=N (J ah ((c.toNat:Nat):Int)))
 (j:K W 115 #[Y (N ⟨b,0,I⟩),J ah ((c.toNat:Nat):Int)] w λe w'=>oA F w b toks (x.B0 c) (λ_ _=>ag) e w'):
 K W 82 #[Y (N ⟨b,0,I⟩),E (N ⟨g,off,I⟩) 1 1] w λe w'=>oA F w b toks (x.B0 c) cM e w':=by
 obtain⟨y,c1,c2,v,u,s⟩:=h.F6;have C:=L h.1;have D:=L j;obtain⟨t,B⟩:∃t,x.B0 c=t:=⟨_,rfl⟩;rw[B]at D⊢;clear h j B;go_enter func82,ntmps82;go_wp2_with fail
 go_loopw [5] (λi wr=>(i=J O 0/\wr=w)\/(i=J O 1/\M (∃e,oA F w b toks t cM e wr))) (λi _=>1-(intOf i).toNat)
 case atStart=>exact U ⟨rfl,rfl⟩
 case round=>
  rcases hrel with⟨rfl,rfl⟩|⟨rfl,m⟩
  .go_wp2_with fail;refine(D.o).mono ?_;rintro e w2 ⟨a,o,n⟩
   by_cases f:t.2.2.1=0
   .obtain⟨rfl,d⟩:=o f;obtain⟨-,A,-,-,-,G⟩:=d.F6;have l:=L d;have r:=L a;have q:=L f;clear o n d a f y c1 c2 v u s z;go_wp2_with fail
    go_roundw
    case rel=>
     refine ai ⟨by go_num,L ⟨ac ag,r.o.A2 (p:=⟨b,1,I⟩) (U C.o) _,λ_=>⟨rfl,?_⟩,λe=>absurd q.o e⟩⟩;exact(l.o.I9).A6 (λk a=>a.E7 (by simp[bs])) (λk a=>l.o.I9.lt k (a.E7 (by simp[bs])))
    case measure=>simp[intOf]
   .obtain⟨rfl,pl,st,d⟩:=n f;obtain⟨A,G⟩:=d.F6;have l:=L d;have r:=L a;have q:=L f;clear o n d a f y c1 c2 v u s z;go_wp2_with fail
    go_roundw
    case rel=>
     refine ai ⟨by go_num,L ⟨ac (cM t.2.2.1 t.2.2.2),r.o.A2 (p:=⟨b,1,I⟩) (U C.o) _,λe=>absurd e q.o,λ_=>⟨rfl,pl,st,?_⟩⟩⟩;exact(l.o.I9 _).A6 (λk a=>a.E7 (by simp[bs])) (λk a=>(l.o.I9 (cM t.2.2.1 t.2.2.2)).2.1 k (a.E7 (by simp[bs])))
    case measure=>simp[intOf]
  .obtain⟨P,a,o,n⟩:=m.o;clear m
   by_cases f:t.2.2.1=0
   .obtain⟨rfl,d⟩:=o f;obtain⟨-,A,-,-,-,-⟩:=d.F6;have l:=L d;have r:=L a;have q:=L f;clear o n d a f y c1 c2 v u s z;go_wp2_with fail;go_ret;exact⟨r.o,λ_=>⟨rfl,l.o⟩,λe=>absurd q.o e⟩
   .obtain⟨rfl,pl,st,d⟩:=n f;obtain⟨A,-⟩:=d.F6;have l:=L d;have r:=L a;have q:=L f;clear o n d a f y c1 c2 v u s z;go_wp2_with fail;go_ret;exact⟨r.o,λe=>absurd e q.o,λ_=>⟨rfl,pl,st,l.o⟩⟩
end
def bR(no a:Nat):ar:=.panicked [{v:=cM no a,recovered:=ae}]
theorem gW(w:S)(no a:Nat):K W 81 #[J O no,J O a] w λe w'=>e=bR no a/\w'=w:=by
 go_enter func81,ntmps81;go_wp2;exact⟨rfl,rfl,rfl⟩
theorem bX{w:S}{b:Nat}{g f d c i j e l a k:Z}{T:TypeId}(h:w.heap[b]?=N (X #[g,f,d,c,i,j,e,l,a,k] T (0,0))):
 w.cell? ⟨b,0,I⟩=N g/\w.cell? ⟨b,1,I⟩=N f/\w.cell? ⟨b,2,I⟩=N d/\w.cell? ⟨b,3,I⟩=N c/\w.cell? ⟨b,4,I⟩=N i/\w.cell? ⟨b,5,I⟩=N j/\w.cell? ⟨b,6,I⟩=N e/\w.cell? ⟨b,7,I⟩=N l/\
 w.cell? ⟨b,8,I⟩=N a/\w.cell? ⟨b,9,I⟩=N k/\∀o,w.frozen? ⟨b,o,I⟩=ae:=
 ⟨aA h,aA h,aA h,aA h,aA h,aA h,aA h,aA h,aA h,aA h,free_at h⟩
theorem l7(w:S):K W 80 #[ag] w λe w'=>e=ac (af #[])/\w'=w:=by
 go_enter ct,cu;go_wp2
 first
  | (go_end0;exact⟨rfl,rfl⟩)
  | exact bh (bu rfl _ _ _) rfl ⟨rfl,rfl⟩
theorem xA(w:S)(no a:Nat):K W 80 #[cM no a] w λe w'=>e=bR (nG no) a/\au w.heap.size w w':=by
 have b:∀w:S,(cv (ao 151 (.agg #[J O no,J O a])) 26 151 ae).run W w=.ok (.agg #[J O no,J O a]) w:=λ_=>by kernel_rfl
 unfold cM
 by_cases h:no=94
 .subst h;simp only[Int.cast_ofNat_Int]at b⊢;go_enter ct,cu;go_wp2;exact⟨rfl,rfl,(aj _ _).alloc (bw _) _⟩
 .have d:((no:Int)==94)=ae:=by simp;omega
  have c:nG no=no:=if_neg h;rw[c];clear c h;go_enter ct,cu;go_wp2;exact⟨rfl,rfl,(aj _ _).alloc (bw _) _⟩
theorem aJc(w:S)(p d want nodes b n cap:Nat)(a:Option ak)(g j c i l f:Z)(h:w.heap[p]?=N (X #[J O d,g,j,c,E a n cap,J O want,J O nodes,i,l,f] 136 (0,0)))(o:want=0\/want=1)(q:n≠d)(m:nodes<65536):
 K W 117 #[Y (N ⟨p,0,I⟩),J O b] w λe w'=>e=ac (af #[])/\w'.heap[p]?=N (X #[J O d,g,j,c,E a n cap,J O want,J O (nodes+1:Nat),i,l,f] 136 (0,0))/\Keeps (λk=>k=p) w w':=by
 obtain⟨r,-,-,-,t,v,y,-,-,-,u⟩:=bX h;have z:=L h;have x:((n:Int)==(d:Int))=ae:=by simp;omega
 have s:((nodes:Int)==65536)=ae:=by simp;omega
 clear h q;rcases o with rfl|rfl
 all_goals
  go_enter bx,bz;go_wp2_with fail;go_region;go_wp2_with fail
  go_end0
  exact⟨rfl,aB (w:=w.drew) z.o _,((H (λk=>k=p) w).A9).A2 (p:=⟨p,6,I⟩) (U rfl) _⟩
theorem aAZ(w:S)(p want a:Nat)(n i l c m d j o f:Z)(h:w.heap[p]?=N (X #[n,i,l,c,m,J O want,d,j,o,f] 136 (0,0)))(k:want≠0/\want≠1):
 K W 117 #[Y (N ⟨p,0,I⟩),J O a] w λe w'=>e=bR 120 a/\au w.heap.size w w':=by
 obtain⟨t,c1,c2,x,u,y,B,s,q,r,v⟩:=bX h
 have z:((want:Int)!=0)=av:=by simp;omega
 have A:((want:Int)!=1)=av:=by simp;omega
 have g:=L (λw=>gW w 120 a);clear h k;go_enter bx,bz;go_wp2_with fail;refine(g.o _).mono ?_;rintro e w1 ⟨b,rfl⟩;unfold bR at b;subst b;go_wp2_with fail;exact⟨rfl,rfl,aj _ _⟩
theorem aCG(w:S)(p d want b cap:Nat)(a:Option ak)(k n f g l o i:Z)(h:w.heap[p]?=N (X #[J O d,k,n,f,E a d cap,J O want,g,l,o,i] 136 (0,0)))(m:want=0\/want=1):
 K W 117 #[Y (N ⟨p,0,I⟩),J O b] w λe w'=>e=bR 121 b/\au w.heap.size w w':=by
 obtain⟨q,-,-,-,r,s,-,-,-,-,-⟩:=bX h;have j:=L (λw=>gW w 121 b);clear h;rcases m with rfl|rfl
 all_goals
  go_enter bx,bz;go_wp2_with fail;go_region;go_wp2_with fail;refine(j.o _).mono ?_;rintro e w1 ⟨c,rfl⟩;unfold bR at c;subst c;go_wp2_with fail;exact⟨rfl,rfl,(aj _ _).drew⟩
theorem aEu(w:S)(p d want b n cap:Nat)(a:Option ak)(j m f k q g:Z)(h:w.heap[p]?=N (X #[J O d,j,m,f,E a n cap,J O want,J O 65536,k,q,g] 136 (0,0)))(l:want=0\/want=1)(o:n≠d):
 K W 117 #[Y (N ⟨p,0,I⟩),J O b] w λe w'=>e=bR 3 b/\au w.heap.size w w':=by
 obtain⟨r,-,-,-,s,t,v,-,-,-,-⟩:=bX h;have u:((n:Int)==(d:Int))=ae:=by simp;omega
 have i:=L (λw=>gW w 3 b);clear h o;rcases l with rfl|rfl
 all_goals
  go_enter bx,bz;go_wp2_with fail;go_region;go_wp2_with fail;refine(i.o _).mono ?_;rintro e w1 ⟨c,rfl⟩;unfold bR at c;subst c;go_wp2_with fail;exact⟨rfl,rfl,(aj _ _).drew⟩
theorem aG1(w:S)(p bytes b:Nat)(s:ByteArray)(x l m f r i g y j:Z)(h:w.heap[p]?=N (X #[x,l,m,f,r,i,g,J O bytes,y,j] 136 (0,0)))(C:bytes<=1073741824)(A:s.size<=1073741824):
 K W 149 #[Y (N ⟨p,0,I⟩),.string s,J O b] w λe w'=>(bytes+s.size<=2097152->e=ac (af #[]))/\(2097152<bytes+s.size->e=bR 3 b)/\w'.heap[p]?=N (X #[x,l,m,f,r,i,g,J O (bytes+s.size:Nat),y,j] 136 (0,0))/\Keeps (λk=>k=p) w w':=by
 obtain⟨-,-,-,-,-,-,-,D,-,-,F⟩:=bX h;have z:=L (λw=>gW w 3 b);obtain⟨n,u⟩:∃n,s.size=n:=⟨_,rfl⟩;rw[u]at A;have q:=L u;have a:=aB (o:=7) h (J O ((bytes+n:Nat):Int));simp only[cg,cj,ck]at a;have t:=L a;clear h a
 by_cases d:bytes+n<=2097152
 .have B:(bytes:Int)+(n:Int)<=2097152:=by omega
  have c:=L d;clear d;go_enter func149,ntmps149;go_wp2_with fail
  go_end0
  rw[q.o];exact⟨λ_=>rfl,λh=>absurd c.o (Nat.not_le.2 h),t.o,(H (λk=>k=p) w).A2 (p:=⟨p,7,I⟩) (U rfl) _⟩
 .have B:¬(bytes:Int)+(n:Int)<=2097152:=by omega
  have c:=L d;clear d;go_enter func149,ntmps149;go_wp2_with fail;refine(z.o _).mono ?_;rintro e w1 ⟨v,rfl⟩;unfold bR at v;subst v;go_wp2_with fail;rw[q.o];exact⟨rfl,λh=>absurd h c.o,λ_=>rfl,t.o,(H (λk=>k=p) w).A2 (p:=⟨p,7,I⟩) (U rfl) _⟩
def cH(e:ar):Prop:=e=ac (af #[])\/∃no a,e=bR no a
theorem aA0(w:S)(p pl want:Nat)(v t o u q s x r:Z)(c:UInt8)(Q:ar->S->Prop)(h:w.heap[p]?=N (X #[v,J O pl,t,o,u,J O want,q,s,x,r] 136 (0,0)))(m:c≠34\/(want≠2/\want≠3))
 (k:K W 117 #[Y (N ⟨p,0,I⟩),J O pl] w λe w'=>cH e/\Q e w'):
 K W 84 #[Y (N ⟨p,0,I⟩),J ah ((c.toNat:Nat):Int)] w Q:=by
 obtain⟨-,c1,-,-,-,A,-,-,-,-,-⟩:=bX h;have l:=L k
 have i:¬c=34\/(c=34/\((want:Int)==2)=ae/\((want:Int)==3)=ae):=by
  by_cases a:c=34
  .right;have:=m.resolve_left (λh=>h a);exact⟨a,by simp;omega,by simp;omega⟩
  .exact U a
 clear h k m;rcases i with a|⟨a,z,B⟩
 .obtain⟨-,y,-⟩:=aD (c:=c) (d:=34) (n:=34) a rfl;clear a;go_enter cw,cz;go_wp2_with fail;refine(l.o).mono ?_;rintro e w1 ⟨rfl|⟨no,j,g⟩,f⟩
  .have b:=L f;clear f;go_wp2_with fail
   first
    | (go_end0;exact b.o)
    | exact b.o
  .have b:=L f;clear f;have C:=L g;unfold bR at g;subst g;go_wp2_with fail;exact⟨rfl,b.o⟩
 .have k:((c.toNat:Nat):Int)=34:=by rw[a];rfl
  clear a;go_enter cw,cz;go_wp2_with fail;refine(l.o).mono ?_;rintro e w1 ⟨rfl|⟨no,j,g⟩,f⟩
  .have b:=L f;clear f;go_wp2_with fail
   first
    | (go_end0;exact b.o)
    | exact b.o
  .have b:=L f;clear f;unfold bR at g;subst g;go_wp2_with fail;exact⟨rfl,b.o⟩
theorem aG2(w:S)(p cap:Nat)(a:Option ak)(j f i b m c g l d:Z)(h:w.heap[p]?=N (X #[j,f,i,b,E a 0 cap,m,c,g,l,d] 136 (0,0))):
 K W 151 #[Y (N ⟨p,0,I⟩)] w λe w'=>e=ac (af #[])/\w'.heap[p]?=N (X #[j,f,i,b,E a 0 cap,J O 6,c,g,l,d] 136 (0,0))/\Keeps (λk=>k=p) w w':=by
 obtain⟨-,-,-,-,n,q,-,-,-,-,o⟩:=bX h;have r:=L h;clear h;go_enter dh,di;go_wp2_with fail
 first
  | (go_end0;exact⟨rfl,aB (aB r.o _) _,((Keeps.refl (λk=>k=p) w).setCell (p:=⟨p,5,none⟩) (.inl rfl) _).setCell (p:=⟨p,5,none⟩) (.inl rfl) _⟩)
  | exact bh (bu rfl _ _ _) rfl ⟨rfl,aB (aB r.o _) _,((H (λk=>k=p) w).A2 (p:=⟨p,5,I⟩) (U rfl) _).A2 (p:=⟨p,5,I⟩) (U rfl) _⟩
theorem aJd(w:S)(p g off n cap a m:Nat)(r s t u D v x y z:Z)(C:w.heap[p]?=N (X #[r,s,t,u,E (N ⟨g,off,I⟩) (n+1) cap,D,v,x,y,z] 136 (0,0)))
 (A:w.cell? ⟨g,off+n,I⟩=N (ao 272 (Y (N ⟨a,0,I⟩))))(o:g≠p)(l:w.heap[a]?=N (X #[J O m] 274 (0,0)))(R:n<=1048576)(T:m<=1073741824):
 K W 151 #[Y (N ⟨p,0,I⟩)] w λe w'=>e=ac (af #[])/\w'.heap[p]?=N (X #[r,s,t,u,E (N ⟨g,off,I⟩) (n+1) cap,J O 5,v,x,y,z] 136 (0,0))/\w'.heap[a]?=N (X #[J O (m+1:Nat)] 274 (0,0))/\Keeps (λk=>k=p\/k=a) w w':=by
 have F:∀w:S,(cv (ao 272 (Y (N ⟨a,0,I⟩))) 281 272 av).run W w=.ok (af #[Y (N ⟨a,0,I⟩),bp av]) w:=λ_=>by kernel_rfl
 obtain⟨-,-,-,-,G,P,-,-,-,-,Q⟩:=bX C
 have c:p≠a:=by
  intro e;subst e;rw[C]at l;simp at l
 have d:(w.setCell ⟨p,5,I⟩ (J O 5)).heap[p]?=_:=aB C _;have h:(w.setCell ⟨p,5,I⟩ (J O 5)).heap[a]?=_:=(aE _ (λe=>c e.symm)).trans l;have i:(w.setCell ⟨p,5,I⟩ (J O 5)).cell? ⟨g,off+n,I⟩=_:=((H (λk=>k=p) w).A2 (p:=⟨p,5,I⟩) (U rfl) _).B5 A o;have B:=L ((H (λk=>k=p\/k=a) w).A2 (p:=⟨p,5,I⟩) (U (U rfl)) (J O 5));simp only[cg,cj,ck]at d;have f:=L d;have b:=L h;have j:=L i;have q:=L c;clear C A l d h i c;go_enter dh,di;go_wp2_with fail;obtain⟨w2,c⟩:∃w2,w.setCell ⟨p,5,I⟩ (J O 5)=w2:=⟨_,rfl⟩;rw[c]at B f b j⊢;obtain⟨-,-,-,-,A,-,-,-,-,-,-⟩:=bX f.o;have d:=j.o;have h:=cell_of_one b.o;have i:=free_of_one b.o;have l:O.wrap ((n:Int)+1-1)=(n:Int):=by rw[dx];omega
 clear c G P Q;go_region;go_wp2_with fail
 go_end0
 exact⟨rfl,(aE (w:=w2.drew) _ q.o).trans f.o,aB (w:=w2.drew) b.o _,(B.o.A9).A2 (p:=⟨a,0,I⟩) (U (ai rfl)) _⟩
theorem aEv(w:S)(p g off n cap t:Nat)(v q s j y l r x m:Z)(h:w.heap[p]?=N (X #[v,q,s,j,E (N ⟨g,off,I⟩) (n+1) cap,y,l,r,x,m] 136 (0,0)))
 (o:w.cell? ⟨g,off+n,I⟩=N (ao 275 (Y (N ⟨t,0,I⟩))))(i:g≠p)(G:n<=1048576):
 K W 151 #[Y (N ⟨p,0,I⟩)] w λe w'=>e=ac (af #[])/\w'.heap[p]?=N (X #[v,q,s,j,E (N ⟨g,off,I⟩) (n+1) cap,J O 5,l,r,x,m] 136 (0,0))/\Keeps (λk=>k=p) w w':=by
 have F:∀w:S,(cv (ao 275 (Y (N ⟨t,0,I⟩))) 281 272 av).run W w=.ok (af #[Y I,bp ae]) w:=λ_=>by kernel_rfl
 obtain⟨-,-,-,-,A,C,-,-,-,-,B⟩:=bX h;have a:(w.setCell ⟨p,5,I⟩ (J O 5)).heap[p]?=_:=aB h _;have f:(w.setCell ⟨p,5,I⟩ (J O 5)).cell? ⟨g,off+n,I⟩=_:=((H (λk=>k=p) w).A2 (p:=⟨p,5,I⟩) (U rfl) _).B5 o i;have u:=L ((H (λk=>k=p) w).A2 (p:=⟨p,5,I⟩) (U rfl) (J O 5));simp only[cg,cj,ck]at a;have b:=L a;have d:=L f;clear h o a f;go_enter dh,di;go_wp2_with fail;obtain⟨w2,c⟩:∃w2,w.setCell ⟨p,5,I⟩ (J O 5)=w2:=⟨_,rfl⟩;rw[c]at u b d⊢;obtain⟨-,-,-,-,P,-,-,-,-,-,-⟩:=bX b.o;have z:=d.o;have D:O.wrap ((n:Int)+1-1)=(n:Int):=by rw[dx];omega
 clear c A C B;go_region;go_wp2_with fail
 go_end0
 exact⟨rfl,b.o,u.o.A9⟩
theorem aEw(w:S)(p want:Nat)(n i l d m f j o g:Z)(c:UInt8)(h:w.heap[p]?=N (X #[n,i,l,d,m,J O want,f,j,o,g] 136 (0,0)))(b:c=34)(k:want=2\/want=3):
 K W 84 #[Y (N ⟨p,0,I⟩),J ah ((c.toNat:Nat):Int)] w λe w'=>e=ac (af #[])/\au w.heap.size w w':=by
 obtain⟨-,-,-,-,-,q,-,-,-,-,-⟩:=bX h;have a:((c.toNat:Nat):Int)=34:=by rw[b];rfl
 rw[a];clear h b a;rcases k with rfl|rfl
 all_goals
  go_enter cw,cz;go_wp2_with fail
  first
   | (go_end0;exact⟨rfl,Below.refl _ _⟩)
   | exact bh (bu rfl _ _ _) rfl ⟨rfl,aj _ _⟩
def aKH(w:S)(l:List UInt8)(e:ar)(w':S):Prop:=
 ∃g cap,e=ac (af #[E (N ⟨g,0,I⟩) l.length cap,ag])/\(∀i x,l[i]?=N x->w'.cell? ⟨g,i,I⟩=N (cC x))/\au w.heap.size w w'
theorem xF(r:Nat)(d:fK r)(w:S):K W 224 #[J V r] w λe w'=>aKH w (aS r) e w':=by
 have l:=L (yM r d)
 have j:∀w,(convert 21 9 (J V r)).run W w=.ok (.string ⟨(aS r).toArray⟩) w:=λw=>by
  rw[run_convert_int_string w 21 9 V r (by kernel_rfl) dy,aCU d]
 obtain⟨s,g⟩:∃s:ByteArray,(⟨(aS r).toArray⟩:ByteArray)=s:=⟨_,rfl⟩;rw[g]at j;have b:=λw=>run_bytes_of_string (P:=W) w 9 22 5 s dy underlying22 underlying5
 have k:(aS r)=s.data.toList:=by rw[<-g]
 rw[k];have c:s.data.toList.length=s.size:=Array.length_toList;clear g k d;go_enter func224,ntmps224;go_wp2_with fail;refine(l.o _).mono ?_;rintro e w1 ⟨rfl,rfl⟩;go_wp2_with fail;refine bh (v:=af #[E (N ⟨w1.heap.size,0,I⟩) s.size (bj w1 s.size 0 5),ag]) (by simp[results,results224,go_sem]) rfl ?_;refine⟨w1.heap.size,bj w1 s.size 0 5,by rw[c],λi x h=>?_,?_⟩
 .have a:i<s.data.size:=by have:=(List.getElem?_eq_some_iff.1 h).1;simpa using this
  have f:s.data[i]=x:=by
   rw[List.getElem?_eq_getElem (by simpa using a)]at h
   simpa using h
  have m:=heap_alloc_new w1 (X (dj s (bj w1 s.size 0 5)) 5 ((dj s (bj w1 s.size 0 5)).size,(dj s (bj w1 s.size 0 5)).size+1))
  show(w1.alloc _).cell? ⟨w1.heap.size,i,I⟩=_
  rw[cell_any m,bytesRow_at s _ i a,f]
 .exact((aj _ _).alloc (bw _) _).drew
def aFK(w:S)(b:Nat)(a:Z)(l:List UInt8)(c:Z->Array Z)(e:ar)(w':S):Prop:=e=ac (af #[])/\∃g off cap,w'.heap[b]?=N (X (c (E (N ⟨g,off,I⟩) l.length cap)) 228 (0,0))/\
 Win 5 cC w' (E (N ⟨g,off,I⟩) l.length cap) l/\(a.ownBlock=N g\/w.heap.size<=g)/\Keeps (λk=>k=b\/a.ownBlock=N k) w w'
theorem aEO(w:S)(b dg a:Nat)(n g j q l d c i o f m:Z)(h:w.heap[b]?=N (X #[n,g,j,q,l,d,c,i,o,f,J O dg,J V a,J V 0,m] 228 (0,0)))(t:55296<=a)(r:a<=56319):
 K W 204 #[Y (N ⟨b,0,I⟩)] w λe w'=>e=ac (af #[])/\w'.heap[b]?=N (X #[n,g,j,aw (az 223) #[] #[],l,d,c,i,o,f,J O dg,J V a,J V a,m] 228 (0,0))/\Keeps (λk=>k=b) w w':=by
 obtain⟨-,-,-,x,-,-,-,-,-,-,-,v,s,-,y⟩:=aM h;have A:=L h;have z:(55296:Int)<=(a:Int):=by omega
 have u:(a:Int)<=56319:=by omega
 clear h;go_enter co,cr;go_wp2_with fail;exact bh (bu rfl _ _ _) rfl ⟨rfl,aB (aB A.o _) _,((H (λk=>k=b) w).A2 (p:=⟨b,12,I⟩) (U rfl) _).A2 (p:=⟨b,3,I⟩) (U rfl) _⟩
theorem aHb(w:S)(b dg c:Nat)(v0 v1 v2 v3 v4 v5 v6 v7 v8 h vd:Z)(l:List UInt8)(G:w.heap[b]?=N (X #[v0,v1,v2,v3,v4,v5,v6,v7,v8,h,J O dg,J V c,J V 0,vd] 228 (0,0)))(r:¬(55296<=c/\c<=56319))(f:fK c)
 (a:Win 5 cC w h l)(i:l.length<=1073741824):
 K W 204 #[Y (N ⟨b,0,I⟩)] w λe w'=>aFK w b h (l++aS c) (λv=> #[v0,v1,v2,aw (az 138) #[] #[],v4,v5,v6,v7,v8,v,J O dg,J V c,J V 0,vd]) e w':=by
 obtain⟨-,-,-,-,-,-,-,-,-,c9,-,cb,cc,-,-⟩:=aM G;obtain⟨ta,tc,htv⟩:=a.A8;have HNE:=L (a.ne G (by decide));have a0:=L G;have HW:=L a.Q7;have HE:=L (xF c f);have HSZ:=L (bw w.heap.size);have HK0:=L (H (λk=>k=b\/h.ownBlock=N k) w);have d:=fQ c;obtain⟨R,n⟩:∃R,aS c=R:=⟨_,rfl⟩;rw[n]at HE d⊢;obtain⟨m,q⟩:∃m,R.length=m+1:=⟨R.length-1,by omega⟩;have hm3:m<=3:=by omega
 have HM:=L q;have HL:=L i;have o:(c:Int)<55296\/((55296:Int)<=(c:Int)/\¬(c:Int)<=56319):=by unfold fK at f;omega
 clear G a f n d q i r;subst htv;rcases o with o|⟨o,hcase2⟩
 .have hcase3:¬(55296:Int)<=(c:Int):=by omega
  go_enter co,cr;go_wp2_with fail;refine(HE.o _).mono ?_;rintro e w1 ⟨g1,A,rfl,f,i⟩;have q:=keep a0.o i;obtain⟨-,-,-,-,-,-,-,-,-,d9,-,-,-,-,-⟩:=aM q;have P:=L q;have B:=L i;have Q:=L (HW.o.A0 (F:=λ_=>False) (ba _ i) (λ_ _=>id));have r:=L f;rw[HM.o];clear q i f c9 cb cc
  go_wp2_with (at_builtin;refine dD aEN rfl _ _ rfl rfl Q.o ⟨g1,0,I⟩ (m+1) A (R.map cC) rfl ?_ ?_ ?_ ?_ ?_ ?_ ?_)
  .rw[dl,HM.o];omega
  .intro j u z;rw[dm]at z;cases s:R[j]? with
   | none=>rw[s]at z;cases z
   | some y=>
    rw[s]at z;simp at z;subst z;have hp:(⟨g1,0,I⟩:ak).add j=⟨g1,j,I⟩:=by unfold dp;split<;>simp_all
    rw[hp];exact r.o j y s
  .intro u hu;rw[dq]at hu;obtain⟨y,_,rfl⟩:=hu;rfl
  .omega
  .have:=HL.o;omega
  .have:=HL.o;unfold dt;omega
  intro g off cap w2 t C x;have a:=t;rw[<-du]at a;have a:=a.I4;have n:=x.C4 P.o (λe=>HNE.o e);have T:=L a;have HNG:=L (t.ne n (by decide));have HG2:=L C;have HK2:=L x;have HB2:=L n;obtain⟨-,-,-,q3,-,-,-,-,-,q9,-,-,-,-,qf⟩:=aM n;clear t a n C x d9;go_wp2_with fail
  go_end0
  have D:Keeps (λk=>k=b) w2 ((w2.setCell ⟨b,9,I⟩ (E (N ⟨g,off,I⟩) (l.length+(m+1)) cap)).setCell ⟨b,3,I⟩ (aw (az 138) #[] #[])):=((H (λk=>k=b) w2).A2 (p:=⟨b,9,I⟩) (U rfl) _).A2 (p:=⟨b,3,I⟩) (U rfl) _;have d:(l++R).length=l.length+(m+1):=by rw[dv,HM.o]
  refine⟨rfl,g,off,cap,?_,?_,HG2.o.imp id (λG=>bc HSZ.o (bc B.o.size G.1)),?_⟩
  .rw[d];exact aB (aB HB2.o _) _
  .rw[d];exact T.o.A0 D (λk e hk=>HNG.o (e.trans (congrArg N hk)))
  .exact((HK0.o.B8 (ba _ B.o)).B8 (HK2.o.A6 (λk G=>ai G))).B8 (D.A6 (λk G=>U G))
 .go_enter co,cr;go_wp2_with fail;refine(HE.o _).mono ?_;rintro e w1 ⟨g1,A,rfl,f,i⟩;have q:=keep a0.o i;obtain⟨-,-,-,-,-,-,-,-,-,d9,-,-,-,-,-⟩:=aM q;have P:=L q;have B:=L i;have Q:=L (HW.o.A0 (F:=λ_=>False) (ba _ i) (λ_ _=>id));have r:=L f;rw[HM.o];clear q i f c9 cb cc
  go_wp2_with (at_builtin;refine dD aEN rfl _ _ rfl rfl Q.o ⟨g1,0,I⟩ (m+1) A (R.map cC) rfl ?_ ?_ ?_ ?_ ?_ ?_ ?_)
  .rw[dl,HM.o];omega
  .intro j u z;rw[dm]at z;cases s:R[j]? with
   | none=>rw[s]at z;cases z
   | some y=>
    rw[s]at z;simp at z;subst z;have hp:(⟨g1,0,I⟩:ak).add j=⟨g1,j,I⟩:=by unfold dp;split<;>simp_all
    rw[hp];exact r.o j y s
  .intro u hu;rw[dq]at hu;obtain⟨y,_,rfl⟩:=hu;rfl
  .omega
  .have:=HL.o;omega
  .have:=HL.o;unfold dt;omega
  intro g off cap w2 t C x;have a:=t;rw[<-du]at a;have a:=a.I4;have n:=x.C4 P.o (λe=>HNE.o e);have T:=L a;have HNG:=L (t.ne n (by decide));have HG2:=L C;have HK2:=L x;have HB2:=L n;obtain⟨-,-,-,q3,-,-,-,-,-,q9,-,-,-,-,qf⟩:=aM n;clear t a n C x d9;go_wp2_with fail
  go_end0
  have D:Keeps (λk=>k=b) w2 ((w2.setCell ⟨b,9,I⟩ (E (N ⟨g,off,I⟩) (l.length+(m+1)) cap)).setCell ⟨b,3,I⟩ (aw (az 138) #[] #[])):=((H (λk=>k=b) w2).A2 (p:=⟨b,9,I⟩) (U rfl) _).A2 (p:=⟨b,3,I⟩) (U rfl) _;have d:(l++R).length=l.length+(m+1):=by rw[dv,HM.o]
  refine⟨rfl,g,off,cap,?_,?_,HG2.o.imp id (λG=>bc HSZ.o (bc B.o.size G.1)),?_⟩
  .rw[d];exact aB (aB HB2.o _) _
  .rw[d];exact T.o.A0 D (λk e hk=>HNG.o (e.trans (congrArg N hk)))
  .exact((HK0.o.B8 (ba _ B.o)).B8 (HK2.o.A6 (λk G=>ai G))).B8 (D.A6 (λk G=>U G))
theorem aEP(w:S)(b dg a hi:Nat)(v0 v1 v2 v3 v4 v5 v6 v7 v8 c vd:Z)(l:List UInt8)(B:w.heap[b]?=N (X #[v0,v1,v2,v3,v4,v5,v6,v7,v8,c,J O dg,J V a,J V hi,vd] 228 (0,0)))(h1:55296<=hi)(h2:hi<=56319)(h3:56320<=a)(h4:a<=57343)
 (i:Win 5 cC w c l)(r:l.length<=1073741824):
 K W 204 #[Y (N ⟨b,0,I⟩)] w λe w'=>aFK w b c (l++aS (65536+(hi-55296)*1024+a-56320)) (λv=> #[v0,v1,v2,aw (az 138) #[] #[],v4,v5,v6,v7,v8,v,J O dg,J V a,J V 0,vd]) e w':=by
 obtain⟨-,-,-,-,-,-,-,-,-,c9,-,cb,cc,-,cf⟩:=aM B;obtain⟨ta,tc,C⟩:=i.A8;have x:fK (65536+(hi-55296)*1024+a-56320):=ai (by omega);have q:=aB B (o:=12) (J V 0);simp only[cg,cj,ck]at q;have s:=L (i.ne B (by decide));have a0:=L (show((w.setCell ⟨b,12,I⟩ (J V 0)).drew).heap[b]?=_ from q);have f:Keeps (λk=>k=b) w (w.setCell ⟨b,12,I⟩ (J V 0)).drew:=((H (λk=>k=b) w).A2 (p:=⟨b,12,I⟩) (U rfl) _).A9;have HW:=L (i.A0 f (λk e D=>s.o (e.trans (congrArg N D)))).Q7;have P:=L (xF _ x);have Q:=L f.size;have T:=L (f.A6 (G:=λk=>k=b\/c.ownBlock=N k) (λk e=>U e));have d:=fQ (65536+(hi-55296)*1024+a-56320);obtain⟨R,z⟩:∃R,aS (65536+(hi-55296)*1024+a-56320)=R:=⟨_,rfl⟩;rw[z]at P d⊢;obtain⟨m,A⟩:∃m,R.length=m+1:=⟨R.length-1,by omega⟩;have hm3:m<=3:=by omega
 have HM:=L A;have HL:=L r;obtain⟨-,-,n3⟩:=lN (n:=hi) (k:=0) (by omega)
 have t:=L (show bg (bg (bg (65536+bg (bg ((hi:Int)-55296)*1024))+(a:Int))-56320)=((65536+(hi-55296)*1024+a-56320:Nat):Int) by
  unfold bg;omega)
 obtain⟨rr,h⟩:∃rr,65536+(hi-55296)*1024+a-56320=rr:=⟨_,rfl⟩;rw[h]at P t;clear B q f i x z d A r h1 h2 h3 h4 h;subst C;go_enter co,cr;go_wp2_with fail;go_region;rw[t.o];go_wp2_with fail;refine(P.o _).mono ?_;rintro e w1 ⟨g1,x,rfl,f,h⟩;have i:=keep a0.o h;obtain⟨-,-,-,-,-,-,-,-,-,d9,-,-,-,-,-⟩:=aM i;have HB1:=L i;have z:=L h;have HW1:=L (HW.o.A0 (F:=λ_=>False) (ba _ h) (λ_ _=>id));have q:=L f;rw[HM.o];clear i h f c9 cb cc cf
 go_wp2_with (at_builtin;refine dD aEN rfl _ _ rfl rfl HW1.o ⟨g1,0,I⟩ (m+1) x (R.map cC) rfl ?_ ?_ ?_ ?_ ?_ ?_ ?_)
 .rw[dl,HM.o];omega
 .intro j u h;rw[dm]at h;cases f:R[j]? with
  | none=>rw[f]at h;cases h
  | some y=>
   rw[f]at h;simp at h;subst h;have i:(⟨g1,0,I⟩:ak).add j=⟨g1,j,I⟩:=by unfold dp;split<;>simp_all
   rw[i];exact q.o j y f
 .intro u f;rw[dq]at f;obtain⟨y,_,rfl⟩:=f;rfl
 .omega
 .have:=HL.o;omega
 .have:=HL.o;unfold dt;omega
 intro g off cap w2 i A r;have f:=i;rw[<-du]at f;have f:=f.I4;have h:=r.C4 HB1.o (λe=>s.o e);have HWN:=L f;have HNG:=L (i.ne h (by decide));have HG2:=L A;have HK2:=L r;have HB2:=L h;obtain⟨-,-,-,q3,-,-,-,-,-,q9,-,-,-,-,qf⟩:=aM h;clear i f h A r d9;go_wp2_with fail
 go_end0
 have f:Keeps (λk=>k=b) w2 ((w2.setCell ⟨b,9,I⟩ (E (N ⟨g,off,I⟩) (l.length+(m+1)) cap)).setCell ⟨b,3,I⟩ (aw (az 138) #[] #[])):=((H (λk=>k=b) w2).A2 (p:=⟨b,9,I⟩) (U rfl) _).A2 (p:=⟨b,3,I⟩) (U rfl) _;have d:(l++R).length=l.length+(m+1):=by rw[dv,HM.o]
 refine⟨rfl,g,off,cap,?_,?_,HG2.o.imp id (λB=>bc Q.o (bc z.o.size B.1)),?_⟩
 .rw[d];exact aB (aB HB2.o _) _
 .rw[d];exact HWN.o.A0 f (λk e D=>HNG.o (e.trans (congrArg N D)))
 .exact((T.o.B8 (ba _ z.o)).B8 (HK2.o.A6 (λk B=>ai B))).B8 (f.A6 (λk B=>U B))
theorem aCV{a v:Nat}(e:a<4096)(d:v<16):bits BinOp.or V ((a:Int)*16) (v:Int)=((a*16+v:Nat):Int):=by
 have c:a*16||| v=a*16+v:=nat_join 4 _ _ (by omega) (by omega)
 have b:(ee 32 ((a:Int)*16)).toNat=a*16:=by
  rw[show((a:Int)*16)=((a*16:Nat):Int) by omega];exact ofInt_u32 _ (by omega)
 show V.wrap ((ee 32 ((a:Int)*16)||| BitVec.ofInt 32 (v:Int)).toNat:Int)=_
 rw[BitVec.toNat_or,b,ofInt_u32 v (by omega),c];simp only[eh,ei,ej];simp;omega
theorem aHd(w:S)(b hi:Nat)(g h i j l m o p q r s t u:Z)(d:UInt8)(c:w.heap[b]?=N (X #[g,h,i,j,l,m,o,p,q,r,s,t,J V hi,u] 228 (0,0)))(a:hexOf d=I):
 K W 188 #[Y (N ⟨b,0,I⟩),J ah ((d.toNat:Nat):Int)] w λe w'=>e=ac (J O (if hi=0 then 92 else 93))/\w'=w:=by
 obtain⟨v,c1,c2,x,y,z,A,B,C,D,F,G,P,cd,Q⟩:=aM c;have f:=L (oU d);rw[a]at f;clear c a
 by_cases c:hi=0
 .rw[if_pos c];subst c;go_enter bk,bm;go_wp2_with fail;refine(f.o _).mono ?_;rintro e w1 ⟨a,rfl⟩;unfold s6 at a;simp only[]at a;subst a;go_wp2_with fail;go_ret;exact⟨rfl,rfl⟩
 .rw[if_neg c];obtain⟨-,R,-⟩:=lN (n:=hi) (k:=0) (by omega);clear c;go_enter bk,bm;go_wp2_with fail;refine(f.o _).mono ?_;rintro e w1 ⟨a,rfl⟩;unfold s6 at a;simp only[]at a;subst a;go_wp2_with fail;go_ret;exact⟨rfl,rfl⟩
theorem aES(w:S)(b dg a hi v:Nat)(t o q k r m l p u n s:Z)(d:UInt8)(h:w.heap[b]?=N (X #[t,o,q,k,r,m,l,p,u,n,J O dg,J V a,J V hi,s] 228 (0,0)))(i:hexOf d=N v)(c:eC hi dg a v=av):
 K W 188 #[Y (N ⟨b,0,I⟩),J ah ((d.toNat:Nat):Int)] w λe w'=>e=ac (J O 93)/\w'=w:=by
 obtain⟨C,c1,c2,G,D,Q,T,A,y,z,B,F,x,cd,P⟩:=aM h;have j:=L (oU d);rw[i]at j;have g:=L (xE w b dg a hi v _ _ _ _ _ _ _ _ _ _ _ h);rw[c]at g;have R:¬(v:Int)<0:=by omega
 clear h i c;go_enter bk,bm;go_wp2_with fail;refine(j.o _).mono ?_;rintro e w1 ⟨f,rfl⟩;unfold s6 at f;simp only[]at f;subst f;go_wp2_with fail;refine(g.o).mono ?_;rintro e w1 ⟨rfl,rfl⟩;go_wp2_with fail;go_ret;exact⟨rfl,rfl⟩
theorem aET(w:S)(b dg a hi v:Nat)(h i j l m n o q r s t:Z)(d:UInt8)(y:w.heap[b]?=N (X #[h,i,j,l,m,n,o,q,r,s,J O dg,J V a,J V hi,t] 228 (0,0)))(f:hexOf d=N v)(c:eC hi dg a v=ae)(g:a<4096)(z:dg<3):
 K W 188 #[Y (N ⟨b,0,I⟩),J ah ((d.toNat:Nat):Int)] w λe w'=>qP w b 0 #[h,i,j,l,m,n,o,q,r,s,J O (dg+1:Nat),J V (a*16+v:Nat),J V hi,t] e w':=by
 obtain⟨B,c1,c2,C,D,F,G,P,Q,R,T,cb,cc,cd,cf⟩:=aM y;have u:=L (oU d);rw[f]at u;have x:=L (xE w b dg a hi v _ _ _ _ _ _ _ _ _ _ _ y);rw[c]at x;have e1:¬(v:Int)<0:=by omega
 have A:=L (aCV g (rB f));have a0:=L y;clear y f c;go_enter bk,bm;go_wp2_with fail;refine(u.o _).mono ?_;rintro e w1 ⟨c,rfl⟩;unfold s6 at c;simp only[]at c;subst c;go_wp2_with fail;refine(x.o).mono ?_;rintro e w1 ⟨rfl,rfl⟩;go_wp2_with fail;go_ret;rw[A.o];exact⟨rfl,aB (aB a0.o _) _,((H (λk=>k=b) w1).A2 (p:=⟨b,11,I⟩) (U rfl) _).A2 (p:=⟨b,10,I⟩) (U rfl) _⟩
def aAh(w:S)(b a:Nat):S:=(w.setCell ⟨b,11,I⟩ (J V a)).setCell ⟨b,10,I⟩ (J O 4)
theorem aCW(w:S)(b a:Nat):Keeps (λk=>k=b) w (aAh w b a):=((H (λk=>k=b) w).A2 (p:=⟨b,11,I⟩) (U rfl) _).A2 (p:=⟨b,10,I⟩) (U rfl) _
theorem aEU(w:S)(b a hi v:Nat)(l m n o p q r s t u x:Z)(d:UInt8)(A:ar->S->Prop)(k:w.heap[b]?=N (X #[l,m,n,o,p,q,r,s,t,u,J O 3,J V a,J V hi,x] 228 (0,0)))(f:hexOf d=N v)(c:eC hi 3 a v=ae)(g:a<4096)
 (h:K W 204 #[Y (N ⟨b,0,I⟩)] (aAh w b (a*16+v)) λe w'=>e=ac (af #[])/\A (ac (J O 0)) w'):
 K W 188 #[Y (N ⟨b,0,I⟩),J ah ((d.toNat:Nat):Int)] w A:=by
 obtain⟨B,c1,c2,C,D,F,G,P,Q,R,T,cb,cc,cd,cf⟩:=aM k;have i:=L (oU d);rw[f]at i;have j:=L (xE w b 3 a hi v _ _ _ _ _ _ _ _ _ _ _ k);rw[c]at j;have e1:¬(v:Int)<0:=by omega
 have y:=L (aCV g (rB f));have a0:=L k;have z:=L h;clear k f c h;go_enter bk,bm;go_wp2_with fail;refine(i.o _).mono ?_;rintro e w1 ⟨c,rfl⟩;unfold s6 at c;simp only[]at c;subst c;go_wp2_with fail;refine(j.o).mono ?_;rintro e w1 ⟨rfl,rfl⟩;go_wp2_with fail;rw[y.o];refine(z.o).mono ?_;rintro e w2 ⟨rfl,h⟩;have f:=L h;clear h;go_wp2_with fail;exact f.o
theorem aJj{w:S}{b c hi dg:Nat}{j i f e k l g n d m o:Z}(a:Nat)(h:w.heap[b]?=N (X #[j,i,f,e,k,l,g,n,d,m,J O dg,J V c,J V hi,o] 228 (0,0))):
 (aAh w b a).heap[b]?=N (X #[j,i,f,e,k,l,g,n,d,m,J O (4:Nat),J V a,J V hi,o] 228 (0,0)):=aB (aB h _) _
end Go.Proofs.YtakkmiomhackiaaGreatDoor
