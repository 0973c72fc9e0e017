/-
  The program, one part of its walk. Conditions: none.
-/
import Derived.Test.YtakkmiomhackiaaGreatDoorTd17
import Derived.Test.YtakkmiomhackiaaGreatDoorTd38
import Derived.Test.YtakkmiomhackiaaGreatDoorTd40
set_option linter.all false
set_option maxRecDepth 100000
set_option maxHeartbeats 16000000
open Go.Proofs.Tryz
open Bool renaming false->K,true->J
open Go renaming Addr->bk,Calls->ar,TypeId->bh,Value->ae,World->X,bodyPost_ret->dw,heap_alloc_new->bu,info_parts->dq,lt_of_block->dm,maxLen->co
open Go.Ending renaming returned->au
open Go.FloatKind renaming f64->ak
open Go.Instr renaming least->bm,missingMethod->dl,typeAssert->D
open Go.IntKind renaming i32->cg,i64->ac,u16->av,u64->ag,wrap_i64->az,wrap_u16->dh
open Go.Obj renaming cells->ah
open Go.Proofs renaming intOf->aw
open Go.Proofs.Tryz renaming func15->bw,ntmps15->bx,prog->U,underlying123->ck,underlying126->bs
open Go.Proofs.YtakkmiomhackiaaGreatDoor.Keeps renaming A1->cv,A3->dx
open Go.Proofs.YtakkmiomhackiaaGreatDoor.Row renaming E0->cz
open Go.Proofs.YtakkmiomhackiaaGreatDoor.Win renaming I6->dv
open Go.Result renaming ok->E
open Go.RowKit renaming Below->ai
open Go.RowKit.Below renaming refl->bj
open Go.Value renaming agg->af,bool->I,float->aj,iface->Y,int->Z,nilIface->ao,ownBlock->dy,pointer->bp,slice->O,string->Q,tuple->H
open Go.World renaming block_lt_of_cell?->bc,drewN_drewN->ct
open List renaming drop_drop->du,drop_eq_getElem_cons->cr,drop_eq_nil_of_le->di,getElem?_eq_getElem->bz,getElem?_eq_some_iff->cu,getElem_mem->dp,length_cons->dt,length_drop->cw,map_eq_nil_iff->dj
open Nat renaming le_refl->ba,zero_le->bg
open Option renaming none->S,some->V
open Or renaming inl->cj
namespace Go.Proofs.YtakkmiomhackiaaGreatDoor
open Go.RowKit
def aH7(want:Array (String×bh))(a:Array Method):Bool:=!(want.toList.filter λx=>!a.any λm=>m.name==x.1&&m.sig==x.2).isEmpty
theorem vL{l:List String}(h:bm l=S):l= []:=by
 cases l with
 | nil=>rfl
 | cons s r=>cases h
theorem aGc{A:List String}{p:String->Bool}{f:String->String}(h:(bm (A.partition p).2<|>bm ((A.partition p).1.map f))=S):A= []:=by
 rw[List.partition_eq_filter_filter]at h;simp only at h;cases b:bm (A.filter (not∘p))with
 | some m=>rw[b]at h;cases h
 | none=>
  rw[b]at h;have d:=vL b;have g:=dj.1 (vL (show bm ((A.filter p).map f)=S from h));rw[List.filter_eq_nil_iff]at d g;cases A with
  | nil=>rfl
  | cons a r=>
   have e:=d a (by simp);have c:=g a (by simp);simp at e c;rw[e]at c;cases c
theorem aDD{want:Array (String×bh)}{a:Array Method}(h:aH7 want a=J):∃m,dl want a=V m:=by
 unfold aH7 at h;obtain⟨e,b⟩:∃e,(want.toList.filter λx=>!a.any λm=>m.name==x.1&&m.sig==x.2)=e:=⟨_,rfl⟩;rw[b]at h;cases c:dl want a with
 | some m=>exact⟨m,rfl⟩
 | none=>
  have d:=aGc (A:=e.map (·.1)) (p:=_) (f:=_) (by rw[<-b];exact c);rw[dj.1 d]at h;cases h
theorem cY{t T:bh}{want:Array (String×bh)}(d:U.underlying T=V (.interface want))(h:(U.info? t).map (λi=>aH7 want i.methods)=V J)(b:(U.info? T).map (·.zero)=V (V ao))(x:ae)(e:bh)(w:X):
 (D (Y t x) e T J).run U w=E (H #[ao,I K]) w:=by
 cases hi:U.info? t with
 | none=>simp[hi]at h
 | some i=>
  cases a:U.info? T with
  | none=>simp[a]at b
  | some j=>
   simp[hi]at h;simp[a]at b;obtain⟨m,c⟩:=aDD h;unfold D;simp[run_underlying d,typeInfo,hi,c,zeroValue,a,b]
theorem sK(w:X):(binOp .neq 102 (af #[]) (af #[])).run U w=E (I K) w:=by kernel_rfl
theorem aGd(w:X):ar U 15 #[Y 102 (af #[]),af #[Z ac 1,I K,Z ag 0,Q ⟨#[]⟩,O S 0 0,O S 0 0]] w λe w'=>e=au (I J)/\ai w.heap.size w w':=by
 have c:∀w:X,(D (Y 102 (af #[])) 39 102 J).run U w=E (H #[af #[],I J]) w:=λ_=>by kernel_rfl
 have k:∀w:X,(D (Y 102 (af #[])) 39 104 J).run U w=E (H #[I K,I K]) w:=λ_=>by kernel_rfl
 have m:∀w:X,(D (Y 102 (af #[])) 39 107 J).run U w=E (H #[aj ak 0,I K]) w:=λ_=>by kernel_rfl
 have b:∀w:X,(D (Y 102 (af #[])) 39 109 J).run U w=E (H #[Q ⟨#[]⟩,I K]) w:=λ_=>by kernel_rfl
 have h:∀w:X,(D (Y 102 (af #[])) 39 112 J).run U w=E (H #[O S 0 0,I K]) w:=λ_=>by kernel_rfl
 have f:∀w:X,(D (Y 102 (af #[])) 39 115 J).run U w=E (H #[O S 0 0,I K]) w:=λ_=>by kernel_rfl
 have i:∀w:X,(D (Y 102 (af #[])) 39 117 J).run U w=E (H #[bp S,I K]) w:=λ_=>by kernel_rfl
 have l:∀w:X,(D (Y 102 (af #[])) 39 120 J).run U w=E (H #[Y 102 (af #[]),I J]) w:=λ_=>by kernel_rfl
 have j:∀w:X,(D (Y 102 (af #[])) 39 123 J).run U w=E (H #[ao,I K]) w:=λ_=>cY ck (by kernel_rfl) (by kernel_rfl) _ _ _
 have g:∀w:X,(D (Y 102 (af #[])) 39 126 J).run U w=E (H #[ao,I K]) w:=λ_=>cY bs (by kernel_rfl) (by kernel_rfl) _ _ _
 have n:=λw=>sK w
 have a:=(bj w.heap.size w).alloc (ba _) (ah #[Z ac 1,I K,Z ag 0,Q ⟨#[]⟩,O S 0 0,O S 0 0] 34);obtain⟨-,-,-,-,-,-,-⟩:=bN (bu w (ah #[Z ac 1,I K,Z ag 0,Q ⟨#[]⟩,O S 0 0,O S 0 0] 34));have d:=L a;clear a;go_enter bw,bx;go_wp2_with fail
 go_quiet (fail)
 go_wp2_with fail;go_ret;exact⟨rfl,eR (d.o.alloc (by simp) _)⟩
theorem aGe(w:X)(b:Bool):ar U 15 #[Y 104 (I b),af #[Z ac 2,I b,Z ag 0,Q ⟨#[]⟩,O S 0 0,O S 0 0]] w λe w'=>e=au (I J)/\ai w.heap.size w w':=by
 have d:∀w:X,(D (Y 104 (I b)) 39 102 J).run U w=E (H #[af #[],I K]) w:=λ_=>by kernel_rfl
 have l:∀w:X,(D (Y 104 (I b)) 39 104 J).run U w=E (H #[I b,I J]) w:=λ_=>by kernel_rfl
 have n:∀w:X,(D (Y 104 (I b)) 39 107 J).run U w=E (H #[aj ak 0,I K]) w:=λ_=>by kernel_rfl
 have c:∀w:X,(D (Y 104 (I b)) 39 109 J).run U w=E (H #[Q ⟨#[]⟩,I K]) w:=λ_=>by kernel_rfl
 have i:∀w:X,(D (Y 104 (I b)) 39 112 J).run U w=E (H #[O S 0 0,I K]) w:=λ_=>by kernel_rfl
 have f:∀w:X,(D (Y 104 (I b)) 39 115 J).run U w=E (H #[O S 0 0,I K]) w:=λ_=>by kernel_rfl
 have j:∀w:X,(D (Y 104 (I b)) 39 117 J).run U w=E (H #[bp S,I K]) w:=λ_=>by kernel_rfl
 have m:∀w:X,(D (Y 104 (I b)) 39 120 J).run U w=E (H #[Y 104 (I b),I J]) w:=λ_=>by kernel_rfl
 have k:∀w:X,(D (Y 104 (I b)) 39 123 J).run U w=E (H #[ao,I K]) w:=λ_=>cY ck (by kernel_rfl) (by kernel_rfl) _ _ _
 have g:∀w:X,(D (Y 104 (I b)) 39 126 J).run U w=E (H #[ao,I K]) w:=λ_=>cY bs (by kernel_rfl) (by kernel_rfl) _ _ _
 have o:=λw=>sK w
 have a:=(bj w.heap.size w).alloc (ba _) (ah #[Z ac 2,I b,Z ag 0,Q ⟨#[]⟩,O S 0 0,O S 0 0] 34);obtain⟨-,-,-,-,-,-,-⟩:=bN (bu w (ah #[Z ac 2,I b,Z ag 0,Q ⟨#[]⟩,O S 0 0,O S 0 0] 34));have h:=L a;clear a;go_enter bw,bx;go_wp2_with fail
 go_quiet (fail)
 go_wp2_with fail;go_ret;exact⟨rfl,eR (h.o.alloc (by simp) _)⟩
theorem aH8(w:X)(b:Nat):ar U 15 #[Y 107 (aj ak b),af #[Z ac 3,I K,Z ag b,Q ⟨#[]⟩,O S 0 0,O S 0 0]] w λe w'=>e=au (I J)/\ai w.heap.size w w':=by
 have g:∀w:X,(D (Y 107 (aj ak b)) 39 102 J).run U w=E (H #[af #[],I K]) w:=λ_=>by kernel_rfl
 have l:∀w:X,(D (Y 107 (aj ak b)) 39 104 J).run U w=E (H #[I K,I K]) w:=λ_=>by kernel_rfl
 have h:∀w:X,(D (Y 107 (aj ak b)) 39 107 J).run U w=E (H #[aj ak b,I J]) w:=λ_=>by kernel_rfl
 have f:∀w:X,(D (Y 107 (aj ak b)) 39 109 J).run U w=E (H #[Q ⟨#[]⟩,I K]) w:=λ_=>by kernel_rfl
 have k:∀w:X,(D (Y 107 (aj ak b)) 39 112 J).run U w=E (H #[O S 0 0,I K]) w:=λ_=>by kernel_rfl
 have i:∀w:X,(D (Y 107 (aj ak b)) 39 115 J).run U w=E (H #[O S 0 0,I K]) w:=λ_=>by kernel_rfl
 have c:∀w:X,(D (Y 107 (aj ak b)) 39 117 J).run U w=E (H #[bp S,I K]) w:=λ_=>by kernel_rfl
 have d:∀w:X,(D (Y 107 (aj ak b)) 39 120 J).run U w=E (H #[Y 107 (aj ak b),I J]) w:=λ_=>by kernel_rfl
 have m:∀w:X,(D (Y 107 (aj ak b)) 39 123 J).run U w=E (H #[ao,I K]) w:=λ_=>cY ck (by kernel_rfl) (by kernel_rfl) _ _ _
 have j:∀w:X,(D (Y 107 (aj ak b)) 39 126 J).run U w=E (H #[ao,I K]) w:=λ_=>cY bs (by kernel_rfl) (by kernel_rfl) _ _ _
 have o:=λw=>nI b w
 have p:=λw=>sK w
 have a:=(bj w.heap.size w).alloc (ba _) (ah #[Z ac 3,I K,Z ag b,Q ⟨#[]⟩,O S 0 0,O S 0 0] 34);obtain⟨-,-,-,-,-,-,-⟩:=bN (bu w (ah #[Z ac 3,I K,Z ag b,Q ⟨#[]⟩,O S 0 0,O S 0 0] 34));have n:=L a;clear a;go_enter bw,bx;go_wp2_with fail
 go_quiet (fail)
 go_wp2_with fail;go_ret;exact⟨rfl,eR (n.o.alloc (by simp) _)⟩
theorem aGf(w:X)(s:ByteArray):ar U 15 #[Y 109 (Q s),af #[Z ac 4,I K,Z ag 0,Q s,O S 0 0,O S 0 0]] w λe w'=>e=au (I J)/\ai w.heap.size w w':=by
 have c:∀w:X,(D (Y 109 (Q s)) 39 102 J).run U w=E (H #[af #[],I K]) w:=λ_=>by kernel_rfl
 have k:∀w:X,(D (Y 109 (Q s)) 39 104 J).run U w=E (H #[I K,I K]) w:=λ_=>by kernel_rfl
 have m:∀w:X,(D (Y 109 (Q s)) 39 107 J).run U w=E (H #[aj ak 0,I K]) w:=λ_=>by kernel_rfl
 have b:∀w:X,(D (Y 109 (Q s)) 39 109 J).run U w=E (H #[Q s,I J]) w:=λ_=>by kernel_rfl
 have h:∀w:X,(D (Y 109 (Q s)) 39 112 J).run U w=E (H #[O S 0 0,I K]) w:=λ_=>by kernel_rfl
 have f:∀w:X,(D (Y 109 (Q s)) 39 115 J).run U w=E (H #[O S 0 0,I K]) w:=λ_=>by kernel_rfl
 have i:∀w:X,(D (Y 109 (Q s)) 39 117 J).run U w=E (H #[bp S,I K]) w:=λ_=>by kernel_rfl
 have l:∀w:X,(D (Y 109 (Q s)) 39 120 J).run U w=E (H #[Y 109 (Q s),I J]) w:=λ_=>by kernel_rfl
 have j:∀w:X,(D (Y 109 (Q s)) 39 123 J).run U w=E (H #[ao,I K]) w:=λ_=>cY ck (by kernel_rfl) (by kernel_rfl) _ _ _
 have g:∀w:X,(D (Y 109 (Q s)) 39 126 J).run U w=E (H #[ao,I K]) w:=λ_=>cY bs (by kernel_rfl) (by kernel_rfl) _ _ _
 have n:=λw=>sK w
 have a:=(bj w.heap.size w).alloc (ba _) (ah #[Z ac 4,I K,Z ag 0,Q s,O S 0 0,O S 0 0] 34);obtain⟨-,-,-,-,-,-,-⟩:=bN (bu w (ah #[Z ac 4,I K,Z ag 0,Q s,O S 0 0,O S 0 0] 34));have d:=L a;clear a;go_enter bw,bx;go_wp2_with fail
 go_quiet (fail)
 go_wp2_with fail;go_ret;exact⟨rfl,eR (d.o.alloc (by simp) _)⟩
def uL(t:Tr):Prop:=∀(F G:Nat->Prop)(w:X)(v:ae)(d:Int)(f:Bool)(c:Nat)(g:ByteArray)(a:Option bk)(n m:Nat)(b:Option bk)(p q:Nat),eJ F w v t->ValAt G w (eV d f c g (O a n m) (O b p q)) t->
 ar U 15 #[v,aDE d f c g (O a n m) (O b p q)] w λe w'=>e=au (I J)/\ai w.heap.size w w'
theorem zD(w:X)(T:bh)(x:ae):(binOp .eql 39 (Y T x) ao).run U w=E (I K) w:=by kernel_rfl
theorem aR.P5{s e n:Nat}{w:X}{v:ae}{b:List ae}(h:aR s e w v n b)(c:0<n):∃g off cap,v=O (V ⟨g,off,S⟩) n cap:=by
 rcases h with⟨_,⟨_,c⟩|⟨g,off,cap,a,rfl,_⟩⟩
 .omega
 .exact⟨g,off,cap,rfl⟩
theorem zE{F G:Nat->Prop}{w:X}{a2:Option bk}{n c2:Nat}{d:List ae}{f:List (List ae)}{l:List Tr}(hn:l.length=n)
 (o:aR 6 34 w (O a2 n c2) n f.flatten)(hvl:d.length=l.length)(P:f.length=l.length)(ht:∀(i:Nat)(v:ae)(t:Tr),d[i]?=V v->l[i]?=V t->eJ F w v t)(r:∀(i:Nat)(c:List ae)(t:Tr),f[i]?=V c->l[i]?=V t->ValAt G w c t)(ih:∀t∈l,uL t)
 (i:Nat)(hi:i<n):∃(a0:bh)(x:ae)(h k:Nat)(s:Int)(y:Bool)(z:Nat)(A:ByteArray)(a:Option bk)(n m:Nat)(b:Option bk)(p q:Nat),d[i]?=V (Y a0 x)/\a2=V ⟨h,k,S⟩/\h<w.heap.size/\∀W,ai w.heap.size w W->
  (W.cell? ⟨h,k+i*6,S⟩=V (Z ac s)/\W.cell? ⟨h,k+i*6+1,S⟩=V (I y)/\W.cell? ⟨h,k+i*6+2,S⟩=V (Z ag z)/\W.cell? ⟨h,k+i*6+3,S⟩=V (Q A)/\W.cell? ⟨h,k+i*6+4,S⟩=V (O a n m)/\W.cell? ⟨h,k+i*6+5,S⟩=V (O b p q))/\
  ar U 15 #[Y a0 x,aDE s y z A (O a n m) (O b p q)] W λe w'=>e=au (I J)/\ai W.heap.size W w':=by
 have h1:l[i]?=V (l[i]'(by omega)):=bz (by omega);have R:d[i]?=V (d[i]'(by omega)):=bz (by omega);have T:f[i]?=V (f[i]'(by omega)):=bz (by omega);have h4:=ht i _ _ R h1;have h5:=r i _ _ T h1;obtain⟨a0,x,hx⟩:=h4.L5;obtain⟨s,y,z,A,a,n',m,b,p,q,hc⟩:=h5.A8;rw[hx]at R h4;rw[hc]at T h5;obtain⟨h,k,cap2,e2⟩:=o.P5 (by omega);injection e2 with y1 y2 y3
 subst y1
 have B:∀c∈f,c.length=6:=by
  intro c hc;obtain⟨j,C⟩:=List.getElem?_of_mem hc;have g:j<l.length:=by rw[<-P];exact(cu.1 C).1
  exact(r j c _ C (bz g)).O8
 obtain⟨cur,N⟩:=o.J6;refine⟨a0,x,h,k,s,y,z,A,a,n',m,b,p,q,R,rfl,dm N,λW hW=>⟨?_,ih _ (dp _) F G W _ _ _ _ _ _ _ _ _ _ _ (h4.T8 hW) (h5.A0 (cv (λ_=>False) hW) λ_ _ _ a1=>a1.elim)⟩⟩
 have g:∀(j:Nat)(u:ae),(eV s y z A (O a n' m) (O b p q))[j]?=V u->W.cell? ⟨h,k+i*6+j,S⟩=V u:=λj u C=>by
  have hj6:j<6:=(cu.1 C).1;have:=(o.A0 (cv (λ_=>False) hW) λ_ _=>id).B5 (j:=i*6+j) (u:=u) (by rw[oN B T hj6];exact C);rw[Nat.add_assoc];exact this
 exact⟨g 0 _ rfl,g 1 _ rfl,g 2 _ rfl,g 3 _ rfl,g 4 _ rfl,g 5 _ rfl⟩
theorem zF{w a:X}(b:ai w.drew.heap.size w.drew a){y s g c e d j l:bk}{z p t h v A i r:ae}(k:w.cell? y=V z)(n:w.cell? s=V p)(f:w.cell? g=V t)(u:w.cell? c=V h)(m:w.cell? e=V v)(q:w.cell? d=V A)(x:w.cell? j=V i)(o:w.cell? l=V r):
 a.cell? y=V z/\a.cell? s=V p/\a.cell? g=V t/\a.cell? c=V h/\a.cell? e=V v/\a.cell? d=V A/\a.cell? j=V i/\a.cell? l=V r:=
 ⟨(b.cell (bc w _ k)).trans k,(b.cell (bc w _ n)).trans n,(b.cell (bc w _ f)).trans f,(b.cell (bc w _ u)).trans u,(b.cell (bc w _ m)).trans m,(b.cell (bc w _ q)).trans q,(b.cell (bc w _ x)).trans x,(b.cell (bc w _ o)).trans o⟩
theorem aGg(F G:Nat->Prop)(w:X)(a0 V2:ae)(d:List ae)(r:List (List ae))(l:List Tr)(o:aR 1 39 w a0 l.length d)(f:aR 6 34 w V2 l.length r.flatten)(u:r.length=l.length)
 (ht:∀(i:Nat)(v:ae)(t:Tr),d[i]?=V v->l[i]?=V t->eJ F w v t)(y:∀(i:Nat)(c:List ae)(t:Tr),r[i]?=V c->l[i]?=V t->ValAt G w c t)(hl:l.length<=65536)(ih:∀t∈l,uL t):
 ar U 15 #[Y 112 a0,af #[Z ac 5,I K,Z ag 0,Q ⟨#[]⟩,V2,O S 0 0]] w λe w'=>e=au (I J)/\ai w.heap.size w w':=by
 obtain⟨h,j,rfl⟩:=o.A8;obtain⟨a2,c2,rfl⟩:=f.A8;have z:d.length=l.length:=by have:=o.1;omega
 obtain⟨n,C⟩:∃n,l.length=n:=⟨_,rfl⟩;rw[C]at o f hl⊢;have HT:=L (zE (n:=n) C f z u ht y ih)
 have HV:=L (λ(i:Nat)(v:ae)(A:d[i]?=V v)=>show ∃g off,h=V ⟨g,off,S⟩/\g<w.heap.size/\∀W,ai w.heap.size w W->W.cell? ⟨g,off+i,S⟩=V v from by
  have hi:i<d.length:=(cu.1 A).1;obtain⟨g,off,cap,e⟩:=o.P5 (by omega);injection e with B y2 y3
  subst B;obtain⟨P,s⟩:=o.J6;exact⟨g,off,rfl,dm s,λW N=>(o.A0 (cv (λ_=>False) N) λ_ _=>id).B5 A⟩)
 have P:∀w:X,(D (Y 112 (O h n j)) 39 102 J).run U w=E (H #[af #[],I K]) w:=λ_=>by kernel_rfl
 have R:∀w:X,(D (Y 112 (O h n j)) 39 104 J).run U w=E (H #[I K,I K]) w:=λ_=>by kernel_rfl
 have T:∀w:X,(D (Y 112 (O h n j)) 39 107 J).run U w=E (H #[aj ak 0,I K]) w:=λ_=>by kernel_rfl
 have ta109:∀w:X,(D (Y 112 (O h n j)) 39 109 J).run U w=E (H #[Q ⟨#[]⟩,I K]) w:=λ_=>by kernel_rfl
 have ta112:∀w:X,(D (Y 112 (O h n j)) 39 112 J).run U w=E (H #[O h n j,I J]) w:=λ_=>by kernel_rfl
 have ta115:∀w:X,(D (Y 112 (O h n j)) 39 115 J).run U w=E (H #[O S 0 0,I K]) w:=λ_=>by kernel_rfl
 have ta117:∀w:X,(D (Y 112 (O h n j)) 39 117 J).run U w=E (H #[bp S,I K]) w:=λ_=>by kernel_rfl
 have ta120:∀w:X,(D (Y 112 (O h n j)) 39 120 J).run U w=E (H #[ao,I K]) w:=λ_=>cY underlying120 (by kernel_rfl) (by kernel_rfl) _ _ _
 have ta123:∀w:X,(D (Y 112 (O h n j)) 39 123 J).run U w=E (H #[Y 112 (O h n j),I J]) w:=λ_=>by kernel_rfl
 have ta126:∀w:X,(D (Y 112 (O h n j)) 39 126 J).run U w=E (H #[ao,I K]) w:=λ_=>cY bs (by kernel_rfl) (by kernel_rfl) _ _ _
 have hq:=λw=>sK w
 have B:=(bj w.heap.size w).alloc (ba _) (ah #[Z ac 5,I K,Z ag 0,Q ⟨#[]⟩,O a2 n c2,O S 0 0] 34);have s:=bu w (ah #[Z ac 5,I K,Z ag 0,Q ⟨#[]⟩,O a2 n c2,O S 0 0] 34);obtain⟨-,-,-,-,-,-,-⟩:=bN s;have HAL:=L B;have HBX:=L s;clear B s o f ht y ih C u z;go_enter bw,bx;go_wp2_with fail
 go_quiet (fail)
 go_wp2_with fail;generalize f:World.drewN _ _=W1;have o:ai w.heap.size w W1:=by rw[<-f];exact eR (HAL.o.alloc (by simp) _)
 have s:W1.heap[w.heap.size]?=V (ah #[Z ac 5,I K,Z ag 0,Q ⟨#[]⟩,O a2 n c2,O S 0 0] 34 (0,0)):=by rw[<-f];exact(Below.heap_alloc _ _ _ (by simp)).trans HBX.o
 have z:=L (And.intro o s);clear f o s
 go_loopw [25] (λv wr=>∃i:Nat,v=Z ac i/\i<=n/\M (ai w.heap.size w wr/\wr.heap[w.heap.size]?=V (ah #[Z ac 5,I K,Z ag 0,Q ⟨#[]⟩,O a2 n c2,O S 0 0] 34 (0,0)))) (λv _=>n-(aw v).toNat)
 case atStart=>exact⟨0,rfl,bg _,z⟩
 case round=>
  obtain⟨i,rfl,hi,s⟩:=hrel
  by_cases B:i<n
  .have e1:(i:Int)<(n:Int):=by omega
   have i1:(0:Int)<=(i:Int):=by omega
   obtain⟨a1,x,u,y,so,fl,bi,tx,a,n',m,b,p,q,A,rfl,-,f⟩:=HT.o i B;obtain⟨g,off,rfl,-,o⟩:=HV.o i _ A;obtain⟨⟨d0,d1,d2,d3,d4,d5⟩,_⟩:=f wr s.o.1;have hc:=o wr s.o.1;have C:=(bN s.o.2).2.2.2.2.1;have HC:=L λW N=>(f W N).2
   have heq:=λw=>zD w a1 x
   clear f o A;go_wp2_with fail
   go_region_held3 (λw'=>w'.cell? ⟨g,off+i,S⟩=V (Y a1 x)/\w'.cell? ⟨w.heap.size,4,S⟩=V (O (V ⟨u,y,S⟩) n c2)/\w'.cell? ⟨u,y+i*6,S⟩=V (Z ac so)/\w'.cell? ⟨u,y+i*6+1,S⟩=V (I fl)/\w'.cell? ⟨u,y+i*6+2,S⟩=V (Z ag bi)/\w'.cell? ⟨u,y+i*6+3,S⟩=V (Q tx)/\w'.cell? ⟨u,y+i*6+4,S⟩=V (O a n' m)/\w'.cell? ⟨u,y+i*6+5,S⟩=V (O b p q)) (first|exact A|go_keep) ((go_at_call 15;(refine(HC.o _ (eR (k:=1) s.o.1)).mono ?_);rintro e w3 ⟨rfl,f⟩;have A:=zF f hc C d0 d1 d2 d3 d4 d5))
   all_goals
    have o:=L (dN f);clear f A;go_wp2_with fail;exact⟨⟨i+1,by go_num,by omega,L ⟨chain s.o.1 o.o,keep s.o.2 o.o⟩⟩,by simp[aw];omega⟩
  .have e1:¬(i:Int)<(n:Int):=by omega
   go_wp2_with fail;go_ret;exact⟨rfl,s.o.1⟩
def aIr(n:Nat):ae:=Z cg n
def aKD(n:Nat):ae:=Z av n
theorem aKE:Elem 394 21 4:=⟨underlying394,by
 have h:(U.info? 21).map (λi=>(i.zero,i.size,i.bytes))=V (V (Z cg 0),1,4):=by kernel_rfl
 obtain⟨i,c,a,d,b⟩:=dq h;exact⟨i,_,c,a,d,b,rfl⟩⟩
theorem aKp:Elem 375 377 2:=⟨underlying375,by
 have h:(U.info? 377).map (λi=>(i.zero,i.size,i.bytes))=V (V (Z av 0),1,2):=by kernel_rfl
 obtain⟨i,c,a,d,b⟩:=dq h;exact⟨i,_,c,a,d,b,rfl⟩⟩
def eE(l:List UInt8):List Nat:=match l with
 | []=> []
 | c::t=>match fD (c::t)with
  | .ok n=>bK ((c::t).take n)::eE (t.drop (n-1))
  | _=> []
termination_by l.length
decreasing_by simp_wf;omega
theorem tF:eE []= []:=by rw[eE]
theorem rE{c:UInt8}{t:List UInt8}{n:Nat}(h:fD (c::t)=.ok (n+1)):eE (c::t)=bK ((c::t).take (n+1))::eE (t.drop n):=by
 rw[eE,h];rfl
theorem tG:∀(N:Nat)(l:List UInt8),l.length<=N->aT l=J->gE l=(eE l).flatMap dB/\(∀r∈eE l,fK r)/\(eE l).length<=l.length
 | _,[],_,_=>by rw[lI,tF];exact⟨rfl,by simp,by simp⟩
 | 0,_::_,h,_=>by simp at h
 | N+1,c::t,h,a=>by
  obtain⟨n,b,e,i⟩:=iH a;obtain⟨d,g,f⟩:=tG N (t.drop n) (by rw[cw];simp at h;omega) e;rw[iP b,rE b,d];refine⟨rfl,λr a=>?_,?_⟩
  .rcases List.mem_cons.1 a with rfl|a
   .exact aAF (mP b).1
   .exact g r a
  .rw[cw]at f;simp only[dt];omega
theorem aBY{s:ByteArray}{i:Nat}(h:i<s.size)(c:aT (s.data.toList.drop i)=J):∃n,1<=n/\fD (s.data.toList.drop i)=.ok n/\aT (s.data.toList.drop (i+n))=J/\i+n<=s.size/\
 eE (s.data.toList.drop i)=bK ((s.data.toList.drop i).take n)::eE (s.data.toList.drop (i+n)):=by
 have e:(s.data.toList.drop (i+1)).length=s.size-(i+1):=by rw[cw];simp
 rw[aZ h]at c⊢;obtain⟨n,d,a,f⟩:=iH c;rw[du,show i+1+n=i+(n+1) by omega]at a;have b:=rE d;rw[du,show i+1+n=i+(n+1) by omega]at b;exact⟨n+1,by omega,d,a,by omega,b⟩
theorem Row.B6{r s:Type}{B g e f:Nat}{enc:r->ae}{b:s->ae}{w:X}{v d:ae}{l:List r}{o:List s}(h:Row B e enc w v l)(j:Row g f b w d o)(n:e≠f):∀k,v.ownBlock=V k->¬d.ownBlock=V k:=by
 intro k m i;obtain⟨c,p⟩:=(dv h).E4 m;obtain⟨q,a⟩:=(dv j).E4 i;rw[p]at a;cases a;exact n rfl
theorem Row.L1{m:Type}{B e:Nat}{enc:m->ae}{w w':X}{v:ae}{l:List m}{F:Nat->Prop}(h:Row B e enc w v l)(f:Keeps F w w')(i:∀k,v.ownBlock=V k->¬F k):Row B e enc w' v l:=by
 refine⟨h.1,?_⟩;rcases h.2 with j|⟨g,cap,b,rfl,d,c,a⟩
 .exact cj j
 .exact .inr ⟨g,cap,b,rfl,d,f.C4 c (i g rfl),a⟩
theorem Row.at{f:Type}{B e:Nat}{enc:f->ae}{w:X}{a:Option bk}{k c:Nat}{l:List f}(h:Row B e enc w (O a k c) l){i:Nat}(hi:i<l.length):∃g,a=V ⟨g,0,S⟩/\k=l.length/\w.cell? ⟨g,i,S⟩=V (enc l[i]):=by
 rcases h.E3 with⟨_,rfl⟩|⟨g,cap,b,_,_,_,_,_,d⟩
 .simp at hi
 .cases b;exact⟨g,rfl,rfl,d i _ (bz hi)⟩
theorem aDN(w:X)(s:ByteArray)(r:s.size<=1073741824)(g:aT s.data.toList=J):ar U 243 #[Q s] w λe w'=>e=au (H #[Z ac 0,Z ac 0])/\w'=w:=by
 have l:=L (show aT (s.data.toList.drop 0)=J from g);clear g;go_enter func243,ntmps243;go_wp2_with fail
 go_loopw [4] (λv wr=>∃i:Nat,v=Z ac i/\i<=s.size/\M (aT (s.data.toList.drop i)=J)/\w=wr) (λv _=>s.size-(aw v).toNat)
 case atStart=>exact⟨0,rfl,bg _,l,rfl⟩
 case round=>
  obtain⟨i,rfl,hi,m,rfl⟩:=hrel
  by_cases h:i<s.size
  .obtain⟨n,b,c,a,j,_⟩:=aBY h m.o;have d:=L (λW=>aAG W s i h (by omega));rw[c,aBU]at d;have k:(i:Int)<(s.size:Int):=by omega
   obtain⟨p,f⟩:∃p,i+n=p:=⟨_,rfl⟩;have t:ac.wrap ((i:Int)+(n:Int))=(p:Int):=by rw[az];omega
   rw[f]at a j;have o:=L a;have q:=L (show i<p by omega);clear c a f b;go_wp2_with fail;refine(d.o _).mono ?_;rintro e w2 ⟨rfl,rfl⟩;go_wp2_with fail;exact⟨⟨p,by go_num,j,o,trivial⟩,by have:=q.o;simp[aw];omega⟩
  .have k:¬(i:Int)<(s.size:Int):=by omega
   go_wp2_with fail;exact dw (v:=H #[Z ac 0,Z ac 0]) (by simp[results,results243,go_sem]) rfl ⟨rfl,rfl⟩
theorem vX(w:X)(s:ByteArray)(b:s.size<=1073741824)(a:aT s.data.toList=J):ar U 225 #[Q s] w λe w'=>e=au (I J)/\w'=w:=by
 have c:=L (λW=>aDN W s b a);clear a;go_enter func225,ntmps225;go_wp2_with fail;refine(c.o _).mono ?_;rintro e w2 ⟨rfl,rfl⟩;go_wp2_with fail;go_ret;exact⟨rfl,rfl⟩
theorem aDO(w:X)(s:ByteArray)(hs:s.size<=1073741824)(f:aT s.data.toList=J):ar U 244 #[Q s] w λe w'=>
 ∃a k c b m d,e=au (H #[O a k c,O b m d])/\Row w.heap.size 21 aIr w' (O a k c) (eE s.data.toList)/\ai w.heap.size w w':=by
 have HR:=L (show aT (s.data.toList.drop 0)=J from f);obtain⟨R,g⟩:∃R,eE s.data.toList=R:=⟨_,rfl⟩;have HL:=L (show []++eE (s.data.toList.drop 0)=R from g);rw[g];clear f g;go_enter func244,ntmps244;go_wp2_with fail
 go_loopw [4,5,6] (λl t v wr=>∃(i:Nat)(a0 A:List Nat),v=Z ac i/\i<=s.size/\M (aT (s.data.toList.drop i)=J)/\M (a0++eE (s.data.toList.drop i)=R)/\a0.length<=i/\A.length<=i/\Row w.heap.size 21 aIr wr l a0/\Row w.heap.size 3 encI wr t A/\ai w.heap.size w wr) (λ_ _ v _=>s.size-(aw v).toNat)
 case atStart=>exact⟨0,[],[],rfl,bg _,HR,HL,bg _,bg _,cz _ _ _ _,cz _ _ _ _,bj _ _⟩
 case round=>
  obtain⟨i,a0,A,rfl,hi,HK,x,z,B,o,y,g⟩:=hrel
  by_cases a1:i<s.size
  .obtain⟨n,q,F,u,h3,P⟩:=aBY a1 HK.o;have HA:=L (λW=>aAG W s i a1 (by omega));have h:=x.o;rw[P]at h;rw[F,aBU]at HA;have q1:(i:Int)<(s.size:Int):=by omega
   obtain⟨p,T⟩:∃p,i+n=p:=⟨_,rfl⟩;have q2:ac.wrap ((i:Int)+(n:Int))=(p:Int):=by rw[az];omega
   rw[T]at u h3 h;obtain⟨r,f⟩:∃r,bK ((s.data.toList.drop i).take n)=r:=⟨_,rfl⟩;rw[f]at h HA;have H2:=L u;have G:=L (show(a0++ [r])++eE (s.data.toList.drop p)=R by rw[<-h];simp);have HP:=L (show i<p by omega);have hsz:=g.size;have C:=L o;have N:=L y;have HBL:=L g;have j:=L (And.intro z B);clear F u T q P h f o y g z B x;go_wp2_with fail;refine(HA.o _).mono ?_;rintro e w2 ⟨rfl,rfl⟩
   go_wp2_with (at_builtin;refine cQ aKE rfl _ _ rfl rfl (C.o.A4 _) ⟨w2.heap.size,0,S⟩ 1 r rfl ?_ rfl ?_ ?_ ?_ ?_)
   .simp[aIr]
   .have:=j.o;simp;omega
   .have:=j.o;simp;unfold co;omega
   .simp;omega
   intro b cap w3 q f;have F:=(HBL.o.alloc hsz (ah #[Z cg r] 21)).grown f (by simp;omega) (λk hk=>(C.o.lt k hk).1);have z:=Row.L1 (N.o.A4 (ah #[Z cg r] 21)) ((dx (λk=>dy _=V k) _).F9 f λk e=>cj e) (Row.B6 N.o C.o (by decide));have P:=L q;have u:=L z;have HB3:=L F;have B:=F.size;clear q f z F
   go_wp2_with (at_builtin;refine cQ aBW rfl _ _ rfl rfl (u.o.A4 _) ⟨w3.heap.size,0,S⟩ 1 i rfl ?_ rfl ?_ ?_ ?_ ?_)
   .simp
   .have:=j.o;simp;omega
   .have:=j.o;simp;unfold co;omega
   .simp;omega
   intro b2 cap2 w4 q f;have T:=(HB3.o.alloc B (ah #[Z ac i] 3)).grown f (by simp;omega) (λk hk=>(u.o.lt k hk).1);have z:=Row.L1 (P.o.A4 (ah #[Z ac i] 3)) ((dx (λk=>dy _=V k) _).F9 f λk e=>cj e) (Row.B6 P.o u.o (by decide));have F:=L (And.intro q (And.intro z T));clear q f z T B;go_wp2_with fail;exact⟨⟨p,a0++ [r],A++ [i],by go_num,h3,H2,G,by have:=j.o;have:=HP.o;simp;omega,by have:=j.o;have:=HP.o;simp;omega,by simpa using F.o.2.1,by simpa using F.o.1,F.o.2.2⟩,by have:=HP.o;simp[aw];omega⟩
  .have q1:¬(i:Int)<(s.size:Int):=by omega
   have h:=x.o;rw[dA a1,tF,List.append_nil]at h;subst h;obtain⟨a,c,rfl⟩:=o.A8;obtain⟨b,d,rfl⟩:=y.A8;have f:=L (And.intro o g);clear o y g x;go_wp2_with fail;exact dw (v:=H #[O a a0.length c,O b A.length d]) (by simp[results,results244,go_sem]) rfl ⟨_,_,_,⟨_,_,_,rfl⟩,f.o.1,f.o.2⟩
theorem aDP(n:Nat):(dB n).length<=2:=by unfold dB;split<;>simp
theorem pJ:∀l:List Nat,(l.flatMap dB).length<=2*l.length
 | []=>by simp
 | n::l=>by
  have:=pJ l;have:=aDP n;rw[List.flatMap_cons,List.length_append,dt];omega
theorem vY(w:X)(s:ByteArray)(hs:s.size<=1073741824)(f:aT s.data.toList=J):ar U 227 #[Q s] w λe w'=>
 ∃a k c,e=au (O a k c)/\Row w.heap.size 377 aKD w' (O a k c) (gE s.data.toList)/\(gE s.data.toList).length<=2*s.size/\ai w.heap.size w w':=by
 have P:=L (λW=>aDO W s hs f);obtain⟨p,h,d⟩:=tG s.data.toList.length s.data.toList (ba _) f;rw[p];have d:(eE s.data.toList).length<=s.size:=by simpa using d
 obtain⟨G,q⟩:∃G,eE s.data.toList=G:=⟨_,rfl⟩;rw[q]at P h d⊢;have l:=pJ G;obtain⟨a4,o⟩:∃a4,G.flatMap dB=a4:=⟨_,rfl⟩;rw[o]at l⊢;have HT:=L o;have HL:=L (And.intro h (And.intro d l));clear p h d l q f o;go_enter func227,ntmps227;go_wp2_with fail;refine(P.o _).mono ?_;rintro e w1 ⟨a,k,c,a2,k2,c2,rfl,d,f⟩;have R:=f.size;have HRO:=L d;have HB:=L f;obtain⟨_,_,T⟩:=d.A8;cases T;clear d f;go_wp2_with fail
 go_loopw [3,6] (λu v wr=>∃(i:Nat)(a0:List Nat),v=Z ac i/\i<=G.length/\M (a0=(G.take i).flatMap dB)/\Row w1.heap.size 377 aKD wr u a0/\ai w1.heap.size w1 wr) (λ_ v _=>G.length-(aw v).toNat)
 case atStart=>exact⟨0,[],rfl,bg _,L rfl,cz _ _ _ _,bj _ _⟩
 case round=>
  obtain⟨i,a0,rfl,hi,HU,p,h⟩:=hrel
  have f:a0.length<=2*i:=by
   have:=pJ (G.take i);rw[<-HU.o,List.length_take]at this;omega
  have d:=HL.o.2.1;have F:=h.size
  by_cases a1:i<G.length
  .have q1:(i:Int)<(G.length:Int):=by omega
   obtain⟨g,rfl,_,l⟩:=(HRO.o.A5 h).at a1;obtain⟨n,q⟩:∃n,G[i]=n:=⟨_,rfl⟩;rw[q]at l;replace l:wr.cell? ⟨g,i,S⟩=V (Z cg n):=l;have N:fK n:=HL.o.1 n (by rw[<-q];exact dp a1);unfold fK at N;have e0:ac.wrap (n:Int)=(n:Int):=by rw[az];omega
   have o:=L (show a0++dB n=(G.take (i+1)).flatMap dB by rw[HU.o,List.take_succ_eq_append_getElem a1,List.flatMap_append,q];simp);have A:=L p;have HI:=L a1;have hx9:ac.wrap ((i:Int)+1)=(i:Int)+1:=by rw[az];omega
   have HBL:=L h;have B:=L (And.intro f d);clear q p h f d
   by_cases C:n<65536
   .have e1:(n:Int)<65536:=by omega
    have e2:av.wrap (n:Int)=(n:Int):=by rw[dh];omega
    have q:dB n= [n]:=by unfold dB;rw[if_pos C]
    rw[q]at o;clear q C N
    go_wp2_with (at_builtin;refine cQ aKp rfl _ _ rfl rfl (A.o.A4 _) ⟨wr.heap.size,0,S⟩ 1 n rfl ?_ rfl ?_ ?_ ?_ ?_)
    .rfl
    .have:=B.o;omega
    .have:=B.o;unfold co;omega
    ·(try simp);omega
    intro b cap w3 f d;have r:=(HBL.o.alloc F (ah #[Z av n] 377)).grown d (by simp;omega) (λk T=>(A.o.lt k T).1);have t:=L (And.intro f r);clear f d r;go_wp2_with fail;exact⟨⟨i+1,a0++ [n],by go_num,by have:=HI.o;omega,o,by simpa using t.o.1,t.o.2⟩,by have:=HI.o;simp[aw];omega⟩
   .have e1:¬(n:Int)<65536:=by omega
    have q:dB n= [55296+(n-65536)/1024,56320+(n-65536)%1024]:=by unfold dB;rw[if_neg C]
    rw[q]at o;obtain⟨m,hm⟩:∃m,n-65536=m:=⟨_,rfl⟩;rw[hm]at o;have e2:ac.wrap ((n:Int)-65536)=(m:Int):=by rw[az];omega
    obtain⟨x,hx⟩:∃x,55296+m/1024=x:=⟨_,rfl⟩;obtain⟨y,hy⟩:∃y,56320+m%1024=y:=⟨_,rfl⟩;rw[hx,hy]at o;have e3:ac.wrap (55296+(m:Int)/1024)=(x:Int):=by rw[az];omega
    have e4:ac.wrap (56320+(m:Int)%1024)=(y:Int):=by rw[az];omega
    have e5:av.wrap (x:Int)=(x:Int):=by rw[dh];omega
    have e6:av.wrap (y:Int)=(y:Int):=by rw[dh];omega
    have e7:ac.wrap ((m:Int)/1024)=(m:Int)/1024:=by rw[az];omega
    clear q C N hm hx hy
    go_wp2_with (at_builtin;refine iY (enc:=aKD) aKp rfl _ _ rfl rfl (Row.A4 A.o (ah #[Z av x,Z av y] 377)) ⟨wr.heap.size,0,S⟩ 2 2 [x,y] (by rfl) (by rfl) (by decide) ?_ ?_ ?_ ?_ ?_ ?_)
    .intro j z q;rcases j with _|_|j<;>simp at q<;>subst q<;>rfl
    .intro z;rfl
    .have:=B.o;omega
    .have:=B.o;unfold co;omega
    ·(try simp);omega
    intro b cap w3 f d;have r:=(HBL.o.alloc F (ah #[Z av x,Z av y] 377)).grown d (by simp;omega) (λk T=>(A.o.lt k T).1);have t:=L (And.intro f r);clear f d r;go_wp2_with fail;exact⟨⟨i+1,a0++ [x,y],by go_num,by have:=HI.o;omega,o,by simpa using t.o.1,t.o.2⟩,by have:=HI.o;simp[aw];omega⟩
  .obtain rfl:i=G.length:=by omega
   have q1:¬(G.length:Int)<(G.length:Int):=by omega
   have d:=HU.o;rw[List.take_length,HT.o]at d;subst d;obtain⟨a3,l,rfl⟩:=p.A8;have f:=L (And.intro (p.I3 R) (HB.o.trans (h.mono R)));clear p h HU;go_wp2_with fail;go_ret;exact⟨_,_,_,rfl,f.o.1,Nat.le_trans HL.o.2.2 (by omega),f.o.2⟩
theorem aJV{c d:List Nat}{j:Nat}(b:j<c.length)(a:j<d.length):cmpL (c.drop j) (d.drop j)=if c[j]=d[j]then cmpL (c.drop (j+1)) (d.drop (j+1))else if c[j]<d[j]then -1 else 1:=by
 rw[cr b,cr a];rfl
theorem aIs{e f:List Nat}{j:Nat}(d:j<=e.length)(c:j<=f.length)(h:¬(j<e.length/\j<f.length)):cmpL (e.drop j) (f.drop j)=if e.length<f.length then -1 else if f.length<e.length then 1 else 0:=by
 by_cases b:j<e.length
 .have a:f.length=j:=by omega
  rw[cr b,(show f.drop j= []from di (by omega)),if_neg (by omega),if_pos (by omega)];rfl
 .rw[(show e.drop j= []from di (by omega))]
  by_cases a:j<f.length
  .rw[cr a,if_pos (by omega)];rfl
  .rw[di (by omega),if_neg (by omega),if_neg (by omega)];rfl
theorem aAJ(w:X)(s t:ByteArray)(h:s.size<=1073741824)(l:t.size<=1073741824)(b:aT s.data.toList=J)(d:aT t.data.toList=J):ar U 207 #[Q s,Q t] w λe w'=>
 e=au (Z ac (eA s.data.toList t.data.toList))/\ai w.heap.size w w':=by
 rw[<-zI _ _ _ (ba _) b d];have A:=L (λW=>vX W s h b);have B:=L (λW=>vX W t l d);have p:=L (λW=>vY W s h b);have r:=L (λW=>vY W t l d);obtain⟨f,n⟩:∃f,gE s.data.toList=f:=⟨_,rfl⟩;obtain⟨i,o⟩:∃i,gE t.data.toList=i:=⟨_,rfl⟩;rw[n]at p⊢;rw[o]at r⊢;obtain⟨C,m⟩:∃C,cmpL f i=C:=⟨_,rfl⟩;have HC:=L (show cmpL (f.drop 0) (i.drop 0)=C from m);rw[m];have HS:=L (And.intro h l);clear m n o b d h l;go_enter func207,ntmps207;go_wp2_with fail;refine(A.o _).mono ?_;rintro e w1 ⟨rfl,rfl⟩;go_wp2_with fail;refine(B.o _).mono ?_;rintro e w2 ⟨rfl,rfl⟩;go_wp2_with fail;refine(p.o _).mono ?_;rintro e w3 ⟨a,k,c,rfl,l,d,h⟩;obtain⟨_,_,b⟩:=l.A8;cases b;have m:=L (And.intro l d);have F:=L h;clear l d h;go_wp2_with fail;refine(r.o _).mono ?_;rintro e z ⟨a2,k2,c2,rfl,l,n,h⟩;obtain⟨_,_,b⟩:=l.A8;cases b;have G:=L (m.o.1.A5 h);have N:=L (chain F.o h);have HV:=L l;have d:=L (λq=>show ai w2.heap.size w2 (z.drewN q)from N.o.trans ⟨rfl,rfl,rfl,ba _,λ_ _=>rfl⟩);have HL:=L (show f.length<=4294967296/\i.length<=4294967296 from⟨by have:=m.o.2;have:=HS.o;omega,by have:=HS.o;omega⟩);clear l n h m;go_wp2_with fail
 go_loopw [9] (λv wr=>∃j:Nat,v=Z ac j/\j<=f.length/\j<=i.length/\M (cmpL (f.drop j) (i.drop j)=C)/\∃q,wr=z.drewN q) (λv _=>f.length-(aw v).toNat)
 case atStart=>exact⟨0,rfl,bg _,bg _,HC,0,rfl⟩
 case round=>
  obtain⟨j,rfl,l,m,P,q,rfl⟩:=hrel;have hl:=HL.o
  by_cases h:j<f.length/\j<i.length
  .have e1:(j:Int)<(f.length:Int):=by omega
   have e2:(j:Int)<(i.length:Int):=by omega
   obtain⟨g,rfl,_,n⟩:=G.o.at h.1;obtain⟨g2,rfl,_,o⟩:=HV.o.at h.2;have b:=P.o;rw[aJV h.1 h.2]at b;obtain⟨x,u⟩:∃x,f[j]=x:=⟨_,rfl⟩;obtain⟨y,T⟩:∃y,i[j]=y:=⟨_,rfl⟩;rw[u]at n b;rw[T]at o b;replace n:z.cell? ⟨g,j,S⟩=V (Z av x):=n;replace o:z.cell? ⟨g2,j,S⟩=V (Z av y):=o;have R:=L h;have hx9:ac.wrap ((j:Int)+1)=(j:Int)+1:=by rw[az];omega
   clear u T h hl l m;rcases Nat.lt_trichotomy x y with a0|a0|a0
   .have u:(x:Int)<(y:Int):=by omega
    rw[if_neg (by omega),if_pos a0]at b;subst b;clear a0;go_wp2_with fail
    go_quiet (fail)
    go_wp2_with fail;go_ret;exact⟨rfl,by first|exact d.o _|(rw[ct];exact d.o _)|(rw[World.drewN_drewN,World.drewN_drewN];exact d.o _)⟩
   .subst a0;have u:¬(x:Int)<(x:Int):=by omega
    rw[if_pos rfl]at b;have T:=L b;clear b;go_wp2_with fail
    go_quiet (fail)
    go_wp2_with fail
    go_quiet (fail)
    go_wp2_with fail
    go_roundw
    case rel=>exact⟨j+1,by go_num,by have:=R.o;omega,by have:=R.o;omega,T,_,rfl⟩
    case measure=>have:=R.o;simp[aw];omega
   .have u:¬(x:Int)<(y:Int):=by omega
    have T:(y:Int)<(x:Int):=by omega
    rw[if_neg (by omega),if_neg (by omega)]at b;subst b;clear a0;go_wp2_with fail
    go_quiet (fail)
    go_wp2_with fail
    go_quiet (fail)
    go_wp2_with fail;go_ret;exact⟨rfl,by first|exact d.o _|(rw[ct];exact d.o _)|(rw[ct,ct];exact d.o _)⟩
  .have b:=P.o;rw[aIs l m h]at b;have n:((j:Int)<(f.length:Int)/\¬(j:Int)<(i.length:Int))\/¬(j:Int)<(f.length:Int):=by omega
   have o:((f.length:Int)<(i.length:Int)/\C= -1)\/(¬(f.length:Int)<(i.length:Int)/\(i.length:Int)<(f.length:Int)/\C=1)\/(¬(f.length:Int)<(i.length:Int)/\¬(i.length:Int)<(f.length:Int)/\C=0):=by
    split at b
    .exact cj ⟨by omega,b.symm⟩
    .split at b
     .exact .inr (cj ⟨by omega,by omega,b.symm⟩)
     .exact .inr (.inr ⟨by omega,by omega,b.symm⟩)
   clear b h P hl l m;rcases n with⟨e1,e2⟩|e1<;>rcases o with⟨u,rfl⟩|⟨u,T,rfl⟩|⟨u,T,rfl⟩
   all_goals
    go_wp2_with fail;go_ret;exact⟨rfl,by first|exact d.o _|(rw[World.drewN_drewN];exact d.o _)|(rw[World.drewN_drewN,World.drewN_drewN];exact d.o _)⟩
end Go.Proofs.YtakkmiomhackiaaGreatDoor
