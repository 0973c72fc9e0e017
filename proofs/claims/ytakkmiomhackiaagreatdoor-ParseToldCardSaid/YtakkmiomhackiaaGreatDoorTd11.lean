/-
  The program, one part of its walk. Conditions: none.
-/
import Derived.Test.YtakkmiomhackiaaGreatDoorTd10
import Derived.Lib.AppendZerosOnto
set_option linter.all false
set_option maxRecDepth 100000
set_option maxHeartbeats 16000000
open Go.Proofs.Tryz
open Array renaming replicate->cv
open Bool renaming false->Y,false_eq_true->dh,true->ao
open Go renaming Addr->ar,Calls->E,CallsD->ct,TypeId->bu,Value->U,World->S,bodyPostS->di,callsD_of_wpS->cu,cell_of_one->bj,heap_alloc_new->cg,leaves_cons->dt,lt_of_block->bm,recoverD->bc,results->bh,wpOpsS->av,wpS_cond->cw,wpS_region->au,wpS_seq->ba
open Go.Act renaming eval->cz
open Go.Ending renaming returned->K
open Go.Exit renaming thenS->bg
open Go.FloatKind renaming f64->bk
open Go.FrameMode renaming panicking->dp,returning->bw
open Go.IntKind renaming i64->O,u64->ah
open Go.Obj renaming cells->V
open Go.Proofs.Tryz renaming func175->cj,ntmps175->ck,prog->X,results196->du
open Go.Proofs.YtakkmiomhackiaaGreatDoor.Keeps renaming A1->aj
open Go.Proofs.YtakkmiomhackiaaGreatDoor.Sz renaming C3->dy
open Go.Proofs.YtakkmiomhackiaaGreatDoor.Tr renaming A7->dx,list->co,object->cr,text->aw
open Go.RowKit renaming Below->ag
open Go.RowKit.Below renaming refl->bx
open Go.Value renaming agg->af,bool->H,float->bs,iface->ac,int->I,nilIface->ai,pointer->W,slice->ae,string->Z,tuple->bp
open List renaming foldl_append->dl,getElem?_append_left->dv,getElem?_append_right->dw
open Nat renaming le_refl->bz,le_succ->dq,le_trans->dj,lt_of_lt_of_le->dm
open Option renaming none->N,some->J
open Or renaming inl->ak,inr->az
namespace Go.Proofs.YtakkmiomhackiaaGreatDoor
open Go.RowKit
def FeedsBad(w:S)(b pl:Nat):Prop:=∃a a1 a2 a3:UInt8,w.heap[b]?=J (V #[I O pl,I .u8 ((a.toNat:Nat):Int),I .u8 ((a1.toNat:Nat):Int),I .u8 ((a2.toNat:Nat):Int),I .u8 ((a3.toNat:Nat):Int),I O 0,H ao] 305 (0,0))
theorem fault_good(w:S)(b pl:Nat)(held:List UInt8)(h:Feeds w b pl held):E X 191 #[W (J ⟨b,0,N⟩)] w λe w'=>e=K ai/\w'=w:=
 Dr.fault_good w b pl held h
theorem fault_bad(w:S)(b pl:Nat)(h:FeedsBad w b pl):E X 191 #[W (J ⟨b,0,N⟩)] w λe w'=>e=K (ac 151 (af #[I O 30,I O pl]))/\w'=w:=
 Dr.fault_bad w b pl h
theorem feedAll_none(l:List UInt8):l.foldl (λa c=>a.bind λh=>aK h c) (N:Option (List UInt8))=N:=by
 induction l with
 | nil=>rfl
 | cons x l b=>exact b
theorem feedAll_take{held l:List UInt8}{k:Nat}(h:k<l.length):aP held (l.take (k+1))=(aP held (l.take k)).bind λh=>aK h l[k]:=by
 unfold aP;rw[List.take_add_one,List.getElem?_eq_getElem h,dl];rfl
theorem feedAll_stop{held l:List UInt8}{k:Nat}(h:aP held (l.take k)=N):aP held l=N:=by
 unfold aP at*
 conv=>lhs;rw[<-List.take_append_drop k l,dl,h]
 exact feedAll_none _
def BytesAt(w:S)(b:Nat)(a:Option ar)(l:List UInt8):Prop:=l= []\/∃g off,a=J ⟨g,off,N⟩/\g≠b/\g<w.heap.size/\∀i x,l[i]?=J x->w.cell? ⟨g,off+i,N⟩=J (I .u8 ((x.toNat:Nat):Int))
def feedRet(w':S)(b pl n:Nat)(o:Option (List UInt8))(e:Ending):Prop:=match o with
 | some h=>e=K ai/\Feeds w' b (pl+n) h
 | none=>∃p,e=K (ac 151 (af #[I O 30,I O (p:Nat)]))/\FeedsBad w' b p
def feedInv(a:S)(b pl:Nat)(held l:List UInt8)(k:Nat)(w:S):Prop:=Keeps (λk=>k=b) a w/\((∃h,aP held (l.take k)=J h/\Feeds w b (pl+k) h)\/(aP held l=N/\∃p,FeedsBad w b p))
theorem feed_any(w:S)(b pl:Nat)(held l:List UInt8)(a:Option ar)(cap:Nat)(h:Feeds w b pl held)(f:BytesAt w b a l)(d:l.length<=1073741824)(c:pl<=1073741824):
 E X 169 #[W (J ⟨b,0,N⟩),ae a l.length cap] w λe w'=>feedRet w' b pl l.length (aP held l) e/\Keeps (λk=>k=b) w w':=
 (Dr.feed_any w b pl held l a cap h f d c).mono λ_ _ h=>⟨h.1,h.2.G5⟩
def errIf(a:Bool)(e:Ending):Prop:=match a with
 | true=>e=K ai
 | false=>∃T v,e=K (ac T v)
theorem end_good(w:S)(b pl:Nat)(held:List UInt8)(h:Feeds w b pl held):E X 258 #[W (J ⟨b,0,N⟩)] w λe w'=>errIf (held== []) e/\w'=w:=
 Dr.end_good w b pl held h
theorem end_bad(w:S)(b pl:Nat)(h:FeedsBad w b pl):E X 258 #[W (J ⟨b,0,N⟩)] w λe w'=>errIf Y e/\w'=w:=
 Dr.end_bad w b pl h
theorem BytesAt.A5{w w':S}{b d:Nat}{a:Option ar}{l:List UInt8}(h:BytesAt w b a l)(e:ag w.heap.size w w')(f:w.heap.size<=d):BytesAt w' d a l:=by
 rcases h with h|⟨g,off,j,_,c,k⟩
 .exact ak h
 .exact az ⟨g,off,j,by omega,dm c e.size,λi x m=>(e.cell (p:=⟨g,off+i,N⟩) c).trans (k i x m)⟩
theorem check_any(w:S)(b:Nat)(l:List UInt8)(a:Option ar)(cap:Nat)(d:BytesAt w b a l)(c:l.length<=1073741824):E X 237 #[ae a l.length cap] w λe w'=>errIf (aT l) e/\ag w.heap.size w w':=
 (Dr.check_any w b l a cap d c).mono λ_ _ h=>⟨h.1,h.2.G5⟩
theorem cell_any{w:S}{b o:Nat}{c:Array U}{T:bu}{a:Nat×Nat}(h:w.heap[b]?=J (V c T a)):w.cell? ⟨b,o,N⟩=c[o]?:=by simp[World.cell?,h]
theorem right_any(s:ByteArray)(w:S)(a:s.size<=1073741824):E X 218 #[Z s] w λe w'=>e=K (H (aT s.data.toList))/\ag w.heap.size w w':=
 (Dr.right_any s w a).mono λ_ _ h=>⟨h.1,h.2.G5⟩
theorem gD(p:ar)(w:S):ct X 211 #[W (J p)] bw w λe c w'=>e=K (bp #[])/\c=bw/\w'=w:=by
 refine cu func211 rfl λb d a=>?_
 apply ba;apply au;simp[av,go_sem,bc,a,ntmps211,bg,cv];apply ba;apply au;simp[av,go_sem,bc,a,bg];refine cw (t:=Y) (by simp[cz]) ?_;simp only[dh,if_false];refine wpS_of_wp (wp_skip ?_);cases b
 simp_all [di,bh,results211]
theorem uY(p:ar)(w:S):ct X 77 #[W (J p)] bw w λe c w'=>e=K (bp #[])/\c=bw/\w'=w:=by
 refine cu func77 rfl λb d a=>?_
 apply ba;apply au;simp[av,go_sem,bc,a,ntmps77,bg,cv];apply ba;apply au;simp[av,go_sem,bc,a,bg];refine cw (t:=Y) (by simp[cz]) ?_;simp only[dh,if_false];refine wpS_of_wp (wp_skip ?_);cases b
 simp_all [di,bh,results77]
theorem uZ(p:ar)(x:U)(no a:Nat)(b:List PanicEntry)(w:S)(f:w.cell? p=J x)(h:w.frozen? p=Y):
 ct X 77 #[W (J p)] (dp ({v:=ac 151 (af #[I O no,I O a]),recovered:=Y}::b)) w λe g w'=>
  e=K (bp #[])/\g=dp ({v:=ac 151 (af #[I O no,I O a]),recovered:=ao}::b)/\w'=w.setCell p (ac 151 (af #[I O no,I O a])):=by
 have c:∀w:S,(Instr.typeAssert (ac 151 (af #[I O no,I O a])) 20 151 Y).run X w=.ok (af #[I O no,I O a]) w:=λ_=>by kernel_rfl
 refine cu func77 rfl λi j d=>?_
 apply ba;apply au;simp[av,go_sem,bc,d,ntmps77,bg,cv];apply ba;apply au;simp[av,go_sem,bc,d,bg];refine cw (t:=ao) (by simp[cz]) ?_;simp only[if_true];apply au;simp[av,go_sem,f,h,c,di,bh,results77]
theorem bN{w:S}{b:Nat}{e d c a f g:U}{T:bu}(h:w.heap[b]?=J (V #[e,d,c,a,f,g] T (0,0))):
 w.cell? ⟨b,0,N⟩=J e/\w.cell? ⟨b,1,N⟩=J d/\w.cell? ⟨b,2,N⟩=J c/\w.cell? ⟨b,3,N⟩=J a/\w.cell? ⟨b,4,N⟩=J f/\w.cell? ⟨b,5,N⟩=J g/\∀o,w.frozen? ⟨b,o,N⟩=Y:=
 ⟨aA h,aA h,aA h,aA h,aA h,aA h,free_at h⟩
theorem eS.I7{w w1 w2:S}{b:Nat}{x:U}{c:List U}{T:bu}{v:U}{R:Nat}{o:U}(m:ag w.heap.size w w1)(t:w.heap.size<=R)(i:w1.heap[R]?=J (V #[o] 26 (0,0)))(j:∀k,x.ownBlock=J k->k<w.heap.size)(q:b<w.heap.size)(h:eS w1 b x c T v w2)(u:U):
 w2.cell? ⟨R,0,N⟩=J o/\w2.frozen? ⟨R,0,N⟩=Y/\eS w b x c T v (w2.setCell ⟨R,0,N⟩ u)/\(w2.setCell ⟨R,0,N⟩ u).cell? ⟨R,0,N⟩=J u:=by
 obtain⟨g,off,cap,r,l,s,n⟩:=h
 have d:¬(R=b\/x.ownBlock=J R):=by
  rintro(e|e)
  .omega
  .have:=j R e;omega
 have a:=n.C4 i d;refine⟨bj a,free_of_one a,⟨g,off,cap,(aE u (by omega)).trans r,?_,s.elim ak (λh=>az (dj m.size h)),((aj _ m).B8 n).A2 (p:=⟨R,0,N⟩) (az t) _⟩,?_⟩
 .have f:Keeps (λk=>k=R) w2 (w2.setCell ⟨R,0,N⟩ u):=(Keeps.A3 (λk=>k=R) w2).A2 (p:=⟨R,0,N⟩) (ak rfl) _;exact l.A0 f (λk e f=>l.ne a (by decide) (e.trans (congrArg J f)))
 .rw[aA (aB a u)];rfl
theorem aKy(w:S)(b:Nat)(m:U)(a:List U)(x:Nat)(c:gM x)(o:w.heap[b]?=J (V #[m] 195 (0,0)))(h:Win 97 id w m a)(p:a.length<=1048576):
 E X 196 #[W (J ⟨b,0,N⟩),af #[I O 3,H Y,I ah x,Z ⟨#[]⟩,I O 0,ae N 0 0]] w λe w'=>e=K ai/\eS w b m a 179 (bs bk (dY x)) w':=by
 have q:=L (λw=>aHR w x);have r:=nJ x;have s:=L (λw=>aFY x w c);have t:=L (λw=>aFZ x w c);have i:=bm o;have u:=L (λw' y(n:ag w.heap.size w w')=>aJL w' b m a y (keep o n) (h.A0 (aj (λ_=>False) n) (λ_ _=>id)) p);have j:=L (λk(v:m.ownBlock=J k)=>h.lt v);have d:=aDo (pB c)
 obtain⟨z,F,g⟩:∃z:Bool,(bk.format.order x 0==J .eq)=z/\dY x=(if z then 0 else x):=by
  refine⟨_,rfl,?_⟩;rw[d];unfold dY;unfold gM aJ at c
  by_cases l:x%9223372036854775808=0
  .rw[decide_eq_true l];simp;omega
  .rw[decide_eq_false l,if_neg (by omega)];simp
 have l:=L g;clear o h c d g;cases z
 all_goals
  go_enter_defers func196,ntmps196
  go_wp2_with fail;refine(q.o _).mono ?_;rintro e w1 ⟨rfl,c⟩;obtain⟨g1,h,d,A⟩:=after2 c;obtain⟨G,P,Q,R,T,q5,qf⟩:=bN g1;have B:=L h;have g:=L d;clear c g1 h d;go_wp2_with fail;refine(dQ _ 2).mono ?_;rintro e w2 ⟨rfl,rfl⟩;go_wp2_with fail;refine(s.o _).mono ?_;rintro e o ⟨rfl,rfl⟩;go_wp2_with fail;refine(t.o _).mono ?_;rintro e o ⟨rfl,rfl⟩;go_wp2_with fail;refine(dQ _ 104).mono ?_;rintro e o ⟨rfl,rfl⟩;go_wp2_with fail;refine(u.o _ _ g.o).mono ?_;rintro e w4 ⟨rfl,d⟩;obtain⟨r0,rf,c,C⟩:=d.I7 g.o (dq _) B.o j.o i ai;have h:=L c;clear d c;go_wp2_with fail;refine dt (f:=211) (args:= #[W (J ⟨w.heap.size+1,0,N⟩)]) (by simp) (by simp[go_sem]) ?_;refine(gD ⟨w.heap.size+1,0,N⟩ _).mono ?_;rintro e u' D ⟨rfl,rfl,rfl⟩;have c:=h.o;have d:=l.o;simp only[dh,if_false,if_true]at d;rw[d];simp[Leaves,settle,bh,du,go_sem,C];exact c
theorem aJM(w:S)(b:Nat)(n:U)(a:List U)(s:ByteArray)(g:aT s.data.toList=ao)(h:s.size<=2097152)(m:w.heap[b]?=J (V #[n] 195 (0,0)))(d:Win 97 id w n a)(p:a.length<=1048576):
 E X 196 #[W (J ⟨b,0,N⟩),af #[I O 4,H Y,I ah 0,Z s,I O 0,ae N 0 0]] w λe w'=>e=K ai/\eS w b n a 180 (Z s) w':=by
 have q:=L (λw=>aFX w s);have c:=λw=>right_any s w (by omega)
 rw[g]at c;have i:=L c;have j:=bm m;have r:=L (λw'(o:ag w.heap.size w w')=>aHS w' b n a s h (keep m o) (d.A0 (aj (λ_=>False) o) (λ_ _=>id)) p);have l:=L (λk(t:n.ownBlock=J k)=>d.lt t);clear m d g h c
 go_enter_defers func196,ntmps196
 go_wp2_with fail;refine(q.o _).mono ?_;rintro e w1 ⟨rfl,d⟩;obtain⟨g1,h,c,u⟩:=after2 d;obtain⟨v,x,y,z,A,B,C⟩:=bN g1;have D:=L g1;have F:=L h;have m:=L c;clear d g1 h c;go_wp2_with fail;refine(dQ _ 2).mono ?_;rintro e w2 ⟨rfl,rfl⟩;go_wp2_with fail;refine(i.o _).mono ?_;rintro e P ⟨rfl,d⟩;have c:=chain m.o d;have g1:=keep D.o d;have h:=keep F.o d;have g:=L c;obtain⟨Q,R,T,p3,p4,p5,pf⟩:=bN g1;have G:=L h;clear d c g1 h v x y z A B C;go_wp2_with fail;refine(dQ _ 100).mono ?_;rintro e x ⟨rfl,rfl⟩;go_wp2_with fail;refine(r.o _ g.o).mono ?_;rintro e y ⟨rfl,d⟩;obtain⟨z,A,c,v⟩:=d.I7 g.o (dq _) G.o l.o j ai;have h:=L c;clear d c;go_wp2_with fail;refine dt (f:=211) (args:= #[W (J ⟨w.heap.size+1,0,N⟩)]) (by simp) (by simp[go_sem]) ?_;refine(gD ⟨w.heap.size+1,0,N⟩ _).mono ?_;rintro e B d ⟨rfl,rfl,rfl⟩;have c:=h.o;simp[Leaves,settle,bh,du,go_sem,v];exact c
theorem aHT(w:S)(b:Nat)(o:U)(a:List U)(x:Nat)(p:gM x)(j:w.heap[b]?=J (V #[o] 195 (0,0)))(f:Win 97 id w o a)(q:a.length<=1048576)(h:a.length<65536):
 E X 175 #[W (J ⟨b,0,N⟩),af #[I O 3,H Y,I ah x,Z ⟨#[]⟩,I O 0,ae N 0 0]] w λe w'=>e=K ai/\eS w b o a 179 (bs bk (dY x)) w':=by
 have c:ag w.heap.size w (w.alloc (V #[I O 3,H Y,I ah x,Z ⟨#[]⟩,I O 0,ae N 0 0] 147)):=(bx _ _).alloc (bz _) _;have r:=L (λw1(k:ag w.heap.size w w1)=>aKy w1 b o a x p (keep j k) (f.A0 (aj (λ_=>False) k) (λ_ _=>id)) q);have z:=bj j;have s:=bm j;obtain⟨A,B,i⟩:=f.A8;
 have l:¬(65536:Int)<=(a.length:Int):=by omega
 obtain⟨C,D,F,G,P,Q,-⟩:=bN (cg w (V #[I O 3,H Y,I ah x,Z ⟨#[]⟩,I O 0,ae N 0 0] 147));have d:=L c;clear j f h c;subst i;go_enter cj,ck;go_wp2_with fail
 go_region_with (go_at_call 196;refine(r.o _ d.o.drew).mono ?_;rintro e w2 ⟨rfl,c⟩)
 all_goals
  obtain⟨g,off,cap,f,h,m,n⟩:=c;have t:=L f;have u:=L h;have v:=L m;have y:=L n;clear f h m n;go_wp2_with fail;go_ret;exact⟨rfl,g,off,cap,t.o,u.o,v.o.elim ak (λj=>az (dj (by simp) j)),(aj _ d.o.drew).B8 y.o⟩
theorem xV(w:S)(b:Nat)(q:U)(a:List U)(x:Nat)(o:gM x)(h:w.heap[b]?=J (V #[q] 195 (0,0)))(i:Win 97 id w q a)(j:65536<=a.length):
 E X 175 #[W (J ⟨b,0,N⟩),af #[I O 3,H Y,I ah x,Z ⟨#[]⟩,I O 0,ae N 0 0]] w λe w'=>(∃v,e=K v)/\ag w.heap.size w w':=by
 have c:ag w.heap.size w (w.alloc (V #[I O 3,H Y,I ah x,Z ⟨#[]⟩,I O 0,ae N 0 0] 147)):=(bx _ _).alloc (bz _) _;have p:=bj h;have k:=bm h;obtain⟨n,m,f⟩:=i.A8;have g:(65536:Int)<=(a.length:Int):=by omega
 obtain⟨l,-,-,-,-,-,-⟩:=bN (cg w (V #[I O 3,H Y,I ah x,Z ⟨#[]⟩,I O 0,ae N 0 0] 147));have d:=L c;clear h i c;subst f;go_enter cj,ck;go_wp2_with fail;go_ret;exact⟨⟨_,rfl⟩,d.o⟩
theorem aF0(w:S)(b:Nat)(o:U)(a:List U)(s:ByteArray)(p:aT s.data.toList=ao)(q:s.size<=2097152)(j:w.heap[b]?=J (V #[o] 195 (0,0)))(f:Win 97 id w o a)(r:a.length<=1048576)(h:a.length<65536):
 E X 175 #[W (J ⟨b,0,N⟩),af #[I O 4,H Y,I ah 0,Z s,I O 0,ae N 0 0]] w λe w'=>e=K ai/\eS w b o a 180 (Z s) w':=by
 have c:ag w.heap.size w (w.alloc (V #[I O 4,H Y,I ah 0,Z s,I O 0,ae N 0 0] 147)):=(bx _ _).alloc (bz _) _;have t:=L (λw1(k:ag w.heap.size w w1)=>aJM w1 b o a s p q (keep j k) (f.A0 (aj (λ_=>False) k) (λ_ _=>id)) r);have A:=bj j;have u:=bm j;obtain⟨B,C,i⟩:=f.A8;
 have l:¬(65536:Int)<=(a.length:Int):=by omega
 obtain⟨D,F,G,P,Q,R,-⟩:=bN (cg w (V #[I O 4,H Y,I ah 0,Z s,I O 0,ae N 0 0] 147));have d:=L c;clear j f h c;subst i;go_enter cj,ck;go_wp2_with fail
 go_region_with (go_at_call 196;refine(t.o _ d.o.drew).mono ?_;rintro e w2 ⟨rfl,c⟩)
 all_goals
  obtain⟨g,off,cap,f,h,m,n⟩:=c;have v:=L f;have x:=L h;have y:=L m;have z:=L n;clear f h m n;go_wp2_with fail;go_ret;exact⟨rfl,g,off,cap,v.o,x.o,y.o.elim ak (λj=>az (dj (by simp) j)),(aj _ d.o.drew).B8 z.o⟩
theorem vA(w:S)(b:Nat)(r:U)(a:List U)(s:ByteArray)(o:aT s.data.toList=ao)(p:s.size<=2097152)(h:w.heap[b]?=J (V #[r] 195 (0,0)))(i:Win 97 id w r a)(j:65536<=a.length):
 E X 175 #[W (J ⟨b,0,N⟩),af #[I O 4,H Y,I ah 0,Z s,I O 0,ae N 0 0]] w λe w'=>(∃v,e=K v)/\ag w.heap.size w w':=by
 have c:ag w.heap.size w (w.alloc (V #[I O 4,H Y,I ah 0,Z s,I O 0,ae N 0 0] 147)):=(bx _ _).alloc (bz _) _;have q:=bj h;have k:=bm h;obtain⟨n,m,f⟩:=i.A8;have g:(65536:Int)<=(a.length:Int):=by omega
 obtain⟨l,-,-,-,-,-,-⟩:=bN (cg w (V #[I O 4,H Y,I ah 0,Z s,I O 0,ae N 0 0] 147));have d:=L c;clear h i c;subst f;go_enter cj,ck;go_wp2_with fail;go_ret;exact⟨⟨_,rfl⟩,d.o⟩
def encS(k:List UInt8):U:=Z ⟨k.toArray⟩
inductive dP(F:Nat->Prop)(w:S):U->Tr->Prop
 | null:dP F w (ac 177 (af #[])) .null
 | flag (b:Bool):dP F w (ac 178 (H b)) (.flag b)
 | num (x:Nat):dP F w (ac 179 (bs bk x)) (.num x)
 | text (s:List UInt8):dP F w (ac 180 (Z ⟨s.toArray⟩)) (aw s)
 | list (b:Nat) (itemsV:U) (vals:List U) (l:List Tr) (hb:F b) (hblk:w.heap[b]?=J (V #[I O (co l).A7.nodes,I O (co l).A7.bytes,I O (co l).A7.depth,itemsV] 186 (0,0)))
  (hw:fC F 97 id w itemsV vals) (hlen:vals.length=l.length) (ht:∀(i:Nat)(v:U)(t:Tr),vals[i]?=J v->l[i]?=J t->dP F w v t):dP F w (ac 181 (W (J ⟨b,0,N⟩))) (co l)
 | object (b:Nat) (keysV itemsV:U) (vals:List U) (keys:List (List UInt8)) (l:List Tr) (hb:F b) (hblk:w.heap[b]?=J (V #[I O (cr keys l).A7.nodes,I O (cr keys l).A7.bytes,I O (cr keys l).A7.depth,keysV,itemsV] 189 (0,0)))
  (hk:fC F 9 encS w keysV keys) (hw:fC F 97 id w itemsV vals) (hlen:vals.length=l.length) (ht:∀(i:Nat)(v:U)(t:Tr),vals[i]?=J v->l[i]?=J t->dP F w v t):dP F w (ac 187 (W (J ⟨b,0,N⟩))) (cr keys l)
theorem dP.A0{F G:Nat->Prop}{w w':S}{v:U}{t:Tr}(h:dP F w v t)(g:Keeps G w w')(m:∀k,F k->¬G k):dP F w' v t:=by
 induction h with
 | null=>exact .null
 | flag b=>exact .flag b
 | num x=>exact .num x
 | text s=>exact .text s
 | list b a c l n f j d q p=>exact .list b a c l n (g.C4 f (m b n)) ⟨j.1.A0 g (λk e=>m k (j.2 k e)),j.2⟩ d p
 | object b i a c keys l n f o j d q p=>exact .object b i a c keys l n (g.C4 f (m b n)) ⟨o.1.A0 g (λk e=>m k (o.2 k e)),o.2⟩ ⟨j.1.A0 g (λk e=>m k (j.2 k e)),j.2⟩ d p
theorem dP.A6{F G:Nat->Prop}{w:S}{v:U}{t:Tr}(h:dP F w v t)(g:∀k,F k->G k):dP G w v t:=by
 induction h with
 | null=>exact .null
 | flag b=>exact .flag b
 | num x=>exact .num x
 | text s=>exact .text s
 | list b a c l i e j d n m=>exact .list b a c l (g b i) e (j.A6 g) d m
 | object b f a c keys l i e o j d n m=>exact .object b f a c keys l (g b i) e (o.A6 g) (j.A6 g) d m
theorem dP.L5{F:Nat->Prop}{w:S}{v:U}{t:Tr}(h:dP F w v t):∃T x,v=ac T x:=by
 cases h<;>exact⟨_,_,rfl⟩
theorem Win.E4{f:Type}{e:Nat}{enc:f->U}{w:S}{v:U}{l:List f}(h:Win e enc w v l){k:Nat}(a:v.ownBlock=J k):∃(c:Array U),w.heap[k]?=J (V c e (0,0)):=by
 rcases h with⟨rfl,_⟩|⟨g,off,cap,b,rfl,d,_⟩
 .cases a
 .cases a;exact⟨_,d⟩
def dZ(F:Nat->Prop)(w:S)(a:List U)(items:List Tr):Prop:=a.length=items.length/\∀(i:Nat)(v:U)(t:Tr),a[i]?=J v->items[i]?=J t->dP F w v t
theorem dZ.A0{F G:Nat->Prop}{w w':S}{a:List U}{items:List Tr}(h:dZ F w a items)(c:Keeps G w w')(b:∀k,F k->¬G k):dZ F w' a items:=
 ⟨h.1,λi v t d e=>(h.2 i v t d e).A0 c b⟩
theorem dZ.A6{F G:Nat->Prop}{w:S}{a:List U}{items:List Tr}(h:dZ F w a items)(b:∀k,F k->G k):dZ G w a items:=
 ⟨h.1,λi v t c d=>(h.2 i v t c d).A6 b⟩
theorem dZ.M6{F:Nat->Prop}{w:S}{a:List U}{items:List Tr}{v:U}{t:Tr}(h:dZ F w a items)(f:dP F w v t):dZ F w (a++ [v]) (items++ [t]):=by
 refine⟨by simp[h.1],λi x y b c=>?_⟩
 by_cases hi:i<a.length
 .rw[dv hi]at b;rw[dv (by have:=h.1;omega)]at c;exact h.2 i x y b c
 .rw[dw (by omega)]at b;rw[dw (by have:=h.1;omega)]at c
  have e:i-a.length=0:=by
   have:=(List.getElem?_eq_some_iff.1 b).1;simp at this;omega
  have d:i-items.length=0:=by have:=h.1;omega
  rw[e]at b;rw[d]at c;simp at b c;subst b;subst c;exact f
def cI(F:Nat->Prop)(w:S)(b:Nat)(items:List Tr):Prop:=
 F b/\(∀k,F k->k<w.heap.size)/\∃c a,w.heap[b]?=J (V #[c] 195 (0,0))/\fC F 97 id w c a/\dZ (λk=>F k/\k≠b/\c.ownBlock≠J k) w a items
theorem cI.B6{F G:Nat->Prop}{w w':S}{g:Nat}{items:List Tr}(h:cI F w g items)(b:Keeps G w w')(c:∀k,F k->¬G k):cI F w' g items:=by
 obtain⟨j,d,n,a,m,i,l⟩:=h;exact⟨j,λk f=>dm (d k f) b.size,n,a,b.C4 m (c g j),⟨i.1.A0 b λk e=>c k (i.2 k e),i.2⟩,l.A0 b λk h=>c k h.1⟩
theorem cI.A6{F G:Nat->Prop}{w:S}{d:Nat}{items:List Tr}(h:cI F w d items)(b:∀k,F k->G k)(c:∀k,G k->k<w.heap.size):cI G w d items:=by
 obtain⟨i,_,j,a,g,e,f⟩:=h;exact⟨b _ i,c,j,a,g,e.A6 b,f.A6 λk h=>⟨b k h.1,h.2⟩⟩
theorem eS.K9{F:Nat->Prop}{w w':S}{f:Nat}{s:U}{a:List U}{items:List Tr}{T:bu}{v:U}{t:Tr}(n:F f)(c:∀k,F k->k<w.heap.size)(o:fC F 97 id w s a)(q:dZ (λk=>F k/\k≠f/\s.ownBlock≠J k) w a items)
 (i:∀G w,dP G w (ac T v) t)(h:eS w f s a T v w'):Keeps F w w'/\cI (Since F w w') w' f (items++ [t]):=by
 obtain⟨g,off,cap,r,l,p,m⟩:=h;have d:Keeps F w w':=m.A6 λk d=>d.elim (λe=>e▸n) (λe=>o.2 k e)
 refine⟨d,ak n,aF c d.size,_,a++ [ac T v],r,⟨by simpa using l,?_⟩,?_⟩
 .intro k j;cases j;exact p.elim (λe=>ak (o.2 _ e)) (λb=>az ⟨b,l.lt rfl⟩)
 .refine dZ.M6 ?_ (i _ _);refine(q.A0 m λk h=>?_).A6 λk h=>⟨ak h.1,h.2.1,?_⟩
  .rintro(e|e)
   .exact h.2.1 e
   .exact h.2.2 e
  .intro e;cases e;exact p.elim (λe=>h.2.2 e) (λb=>absurd (c _ h.1) (Nat.not_lt.2 b))
theorem aF1(F:Nat->Prop)(w:S)(g:Nat)(items:List Tr)(x:Nat)(p:gM x)(h:cI F w g items)(C:items.length<=1048576):
 E X 154 #[W (J ⟨g,0,N⟩),bs bk x] w λe w'=>(∃v,e=K v)/\Keeps F w w'/\cI (Since F w w') w' g (iO items x):=by
 have r:=h;obtain⟨s,d,D,b,n,m,o⟩:=h;have z:=nI x;have l:=o.1
 by_cases a:65536<=items.length
 .have c:iO items x=items:=by unfold iO aY;rw[if_pos a]
  rw[c];have u:=L (xV w g D b x p n m.1 (by omega));have y:=L r;have q:=L d;clear r n m o l a c s d p;go_enter func154,ntmps154;go_wp2_with fail;refine(u.o).mono ?_;rintro e w1 ⟨⟨v,rfl⟩,j⟩;have i:=L j;clear j;go_wp2_with fail;go_ret;exact⟨⟨_,rfl⟩,aj F i.o,(y.o.B6 (aj (λ_=>False) i.o) (λ_ _=>id)).A6 (λk B=>ak B) (aF q.o i.o.size)⟩
 .have c:iO items x=items++ [.num (dY x)]:=by unfold iO aY oL;rw[if_neg a];simp[dx,dy]
  rw[c];have u:=L (aHT w g D b x p n m.1 (by omega) (by omega));have A:=L (λw'(h:eS w g D b 179 (bs bk (dY x)) w')=>h.K9 (t:=.num (dY x)) s d m o (λ_ _=>.num _));clear r n m o l a c s d p;go_enter func154,ntmps154;go_wp2_with fail;refine(u.o).mono ?_;rintro e w1 ⟨rfl,f⟩;have i:=L (A.o _ f);clear f;go_wp2_with fail;go_ret;exact⟨⟨_,rfl⟩,i.o.1,i.o.2⟩
theorem aDq(F:Nat->Prop)(w:S)(m:Nat)(items:List Tr)(l:List UInt8)(r:aT l=ao)(y:l.length<=2097152)(D:cI F w m items)(R:items.length<=1048576):
 E X 150 #[W (J ⟨m,0,N⟩),Z ⟨l.toArray⟩] w λe w'=>(∃v,e=K v)/\Keeps F w w'/\cI (Since F w w') w' m (gC items l):=by
 have z:=D;obtain⟨A,h,P,c,u,o,x⟩:=D;have p:=x.1;have b:gC items l=aY items (aw l):=by unfold gC;rw[if_pos r]
 rw[b];have d:aT (⟨l.toArray⟩:ByteArray).data.toList=ao:=by simpa using r
 have f:(⟨l.toArray⟩:ByteArray).size<=2097152:=by show l.toArray.size<=_;simpa using y
 have i:∀G w,dP G w (ac 180 (Z ⟨l.toArray⟩)) (aw l):=λ_ _=>.text _
 obtain⟨s,j⟩:∃s:ByteArray,(⟨l.toArray⟩:ByteArray)=s:=⟨_,rfl⟩;rw[j]at d f i⊢
 by_cases a:65536<=items.length
 .have g:aY items (aw l)=items:=by unfold aY;rw[if_pos a]
  rw[g];have B:=L (vA w m P c s d f u o.1 (by omega));have Q:=L z;have C:=L h;clear z u o x p a g A h r y b d f i j;go_enter func150,ntmps150;go_wp2_with fail;refine(B.o).mono ?_;rintro e w1 ⟨⟨v,rfl⟩,q⟩;have n:=L q;clear q;go_wp2_with fail;go_ret;exact⟨⟨_,rfl⟩,aj F n.o,(Q.o.B6 (aj (λ_=>False) n.o) (λ_ _=>id)).A6 (λk q=>ak q) (aF C.o n.o.size)⟩
 .have g:aY items (aw l)=items++ [aw l]:=by unfold aY oL;rw[if_neg a];simp[dx,dy];omega
  rw[g];have B:=L (aF0 w m P c s d f u o.1 (by omega) (by omega));have q:=L (λw'(D:eS w m P c 180 (Z s) w')=>D.K9 (t:=aw l) A h o x i);clear z u o x p a g A h r y b d f i j;go_enter func150,ntmps150;go_wp2_with fail;refine(B.o).mono ?_;rintro e w1 ⟨rfl,a⟩;have n:=L (q.o _ a);clear a;go_wp2_with fail;go_ret;exact⟨⟨_,rfl⟩,n.o.1,n.o.2⟩
theorem aAy(w:S):E X 73 #[] w λe w'=>e=K (W (J ⟨w.heap.size,0,N⟩))/\w'=w.alloc (V #[ae N 0 0] 195):=by
 go_enter func73,ntmps73;go_wp2;go_ret;exact⟨rfl,rfl⟩
theorem aHU(F:Nat->Prop)(w:S)(i:Nat)(t:Tr)(h:cI F w i [t]):E X 54 #[W (J ⟨i,0,N⟩)] w λe w'=>e=K (bp #[W (J ⟨w.heap.size,0,N⟩),ai])/\∃v,w'=w.alloc (V #[v] 176)/\dP F w v t:=by
 obtain⟨-,-,p,a,d,j,b⟩:=h
 obtain⟨v,rfl⟩:∃v,a= [v]:=by
  have:=b.1
  match a,this with
  | [v],_=>exact⟨v,rfl⟩
 have l:=L ((b.2 0 v t rfl rfl).A6 (G:=F) λk h=>h.1);have o:=bj d;rcases j.1 with⟨_,n⟩|⟨g,off,cap,m,rfl,f,-,-,-,hi⟩
 .cases n
 .have c:w.cell? ⟨g,off,N⟩=J v:=by
   have:=hi 0 v rfl;rw[aA f];simpa using this
  simp only[List.length_cons,List.length_nil,Nat.zero_add]at o;clear d j b f hi;obtain⟨T,x,rfl⟩:=l.o.L5;go_enter func54,ntmps54;go_wp2_with fail;exact bodyPost_ret (v:=bp #[W (J ⟨w.heap.size,0,N⟩),ai]) (by simp[bh,results54,go_sem]) rfl ⟨rfl,_,rfl,l.o⟩
theorem aEN:kQ 22 5 1 1:=⟨underlying22,by decide,by
 have h:(X.info? 5).map (λi=>(i.zero,i.size,i.bytes))=J (J (I .u8 0),1,1):=by kernel_rfl
 obtain⟨i,c,a,d,b⟩:=info_parts h;exact⟨i,_,c,a,d,b,rfl⟩⟩
end Go.Proofs.YtakkmiomhackiaaGreatDoor
