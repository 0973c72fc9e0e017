/-
  The program, one part of its walk. Conditions: none.
-/
import Derived.Test.YtakkmiomhackiaaGreatDoorBf26
set_option linter.all false
set_option maxRecDepth 100000
set_option maxHeartbeats 16000000
open Go.Proofs.Tryz
open Go renaming Value->N,World->O
open Go.Ending renaming returned->Y
open Go.Obj renaming cells->U
open Go.Proofs.YtakkmiomhackiaaGreatDoor.Keeps renaming A0->K,A8->Z
open Go.Value renaming slice->J
open Option renaming some->I
open Or renaming inl->X,inr->S
namespace Go.Proofs.YtakkmiomhackiaaGreatDoor
open Go.RowKit
variable {w w2:O}{V:N}{L:List Stp}{t:Tr}
def kN(w2:O)(V:N)(L:List Stp)(l:List Tr)(i:Nat)(o:N)(wr:O):Prop:=
 cK 147 wr o (L++dX (l.take i))/\Keeps (λk=>V.ownBlock=I k) w2 wr/\∀k,o.ownBlock=I k->V.ownBlock=I k\/w2.heap.size<=k
def kN.P2{wr c:O}{o:N}{l:List Tr}{i:Nat}{e:Ending}(h:kN w2 V L l i o wr)(g:l[i]?=I t)(m:aA8 wr o (L++dX (l.take i)++t.T8) e c):∃a,e=Y a/\kN w2 V L l (i+1) a c:=by
 obtain⟨-,b,d⟩:=h;obtain⟨a,rfl,f,n,j⟩:=m;refine⟨a,rfl,?_,?_,?_⟩
 .rw[uN g,<-List.append_assoc];exact f
 .exact b.trans n d
 .intro k e;have:=b.size;rcases j k e with e|e
  .exact d k e
  .exact S (by omega)
def aBY{wr r:O}{q:N}{a:List Stp}{s:Stp}{n:Option Addr}{j m:Nat}{h:Option Addr}{b:List (List N)}(G:cK 147 w V L)(f:Below w w w2)(x:b.length=a.length)(D:aQ 6 147 wr (J n a.length j) a.length b.flatten)
 (E:∀(i:Nat)(c:List N)(s:Stp),b[i]?=I c->a[i]?=I s->nK wr c s)(d:Keeps (λk=>V.ownBlock=I k) w2 wr)(z:∀k,(J n a.length j).ownBlock=I k->V.ownBlock=I k\/w2.heap.size<=k)
 (C:Win 9 encS w2 (J h s.e.length m) s.e)(o:Obj)(p:aQ 6 147 r q (a.length+1) (b.flatten++aId s (J h s.e.length m)))(l:Keeps (λk=>(J n a.length j).ownBlock=I k) (wr.alloc o) r)
 (v:∀k,q.ownBlock=I k->(J n a.length j).ownBlock=I k\/wr.heap.size<=k):aA8 w V (a++ [s]) (Y q) r:=by
 have F:∀(k:Nat)(c:Array N),w2.heap[k]?=I (U c 9 (0,0))->¬V.ownBlock=I k:=λk c g e=>by
  obtain⟨y,_,B,_⟩:=G;obtain⟨H,t⟩:=B.E0 e;rw[keep t f]at g;injection g with g
  injection g with _ g _
  exact absurd g (by decide)
 have u:nK wr (aId s (J h s.e.length m)) s:=(show nK w2 (aId s (J h s.e.length m)) s from⟨h,m,rfl,C⟩).A2 d F;have Q:=f.size;have P:=d.size;refine⟨q,rfl,cK.J8 (by decide) x D E u (((Z (λk=>(J n a.length j).ownBlock=I k) wr).A6 o).same l) p,?_,?_⟩
 .exact(((K (λk=>V.ownBlock=I k) f).trans d λk e=>X e).A6 o).trans l λk e=>by
   rcases z k e with e|e
   .exact X e
   .exact S (by omega)
 .intro k e;rcases v k e with e|e
  .rcases z k e with e|e
   .exact X e
   .exact S (by omega)
  .exact S (by omega)
def kU{e c b a f d:N}(g:Below (w.alloc (U #[e,c,b,a,f,d] 147)).heap.size (w.alloc (U #[e,c,b,a,f,d] 147)) w2):w2.heap[w.heap.size]?=I (U #[e,c,b,a,f,d] 147 (0,0)):=keep (heap_alloc_new w _) g
def nF(w:O)(P v:N)(L:List Stp)(s:Stp)(a:cK 147 w P L)(T:L.length+1<=1048576)(G:(v=.iface 177 (.agg #[])/\s=⟨1,false,0,[],0,[]⟩)\/(∃b,v=.iface 178 (.bool b)/\s=⟨2,b,0,[],0,[]⟩)\/(∃x,v=.iface 179 (.float .f64 x)/\s=⟨3,false,x,[],0,[]⟩)\/∃n:Oo,v=.iface 180 (.string ⟨n.toArray⟩)/\s=⟨4,false,0,n,0,[]⟩):
 Calls prog 122 #[P,v] w λe w'=>aA8 w P (L++ [s]) e w':=by
 obtain⟨Q,R,rfl⟩:=a.A7;have F:=A a;clear a;rcases G with⟨rfl,rfl⟩|⟨b,rfl,rfl⟩|⟨x,rfl,rfl⟩|⟨n,rfl,rfl⟩
 focus
  have B:∀w:O,(method 565 177 (.agg #[]) "affidavit/node.sort").run prog w=.ok (344,.agg #[]) w:=λ_=>by kernel_rfl
  have a:∀w:O,(Instr.typeAssert (.iface 177 (.agg #[])) 97 178 true).run prog w=.ok (.tuple #[.bool false,.bool false]) w:=λ_=>by kernel_rfl
  have d:∀w:O,(Instr.typeAssert (.iface 177 (.agg #[])) 97 179 true).run prog w=.ok (.tuple #[.float .f64 0,.bool false]) w:=λ_=>by kernel_rfl
  have j:∀w:O,(Instr.typeAssert (.iface 177 (.agg #[])) 97 180 true).run prog w=.ok (.tuple #["",.bool false]) w:=λ_=>by kernel_rfl
  have C:∀w:O,(Instr.typeAssert (.iface 177 (.agg #[])) 97 181 true).run prog w=.ok (.tuple #[.pointer none,.bool false]) w:=λ_=>by kernel_rfl
  have D:∀w:O,(Instr.typeAssert (.iface 177 (.agg #[])) 97 187 true).run prog w=.ok (.tuple #[.pointer none,.bool false]) w:=λ_=>by kernel_rfl
  have q:=A (λw=>aIe w);have r:=A (λw=>aAo w);go_enter func122,ntmps122;go_wp2_with fail;refine(q.o _).mono ?_;rintro e w1 ⟨rfl,f⟩;have l:=A f;clear f;go_wp2_with fail;refine(r.o _).mono ?_;rintro e w2 ⟨rfl,c⟩;have i:=A (chain l.o (((Below.refl w1 w1).alloc (Nat.le_refl _) (U #[.int .i64 1,.bool false,.int .u64 0,"",.int .i64 0,()] 147)).trans (c.mono (by simp))));have y:=A (kU c);have z:=A (lU w2 (.int .i64 1) (.bool false) (.int .u64 0) (.string ⟨#[]⟩) (.int .i64 0) (J none 0 0) 147);obtain⟨E,h,m,t⟩:=F.o.A4 i.o;have H:=A (m.A2 ((Z (λ_=>False) w2).A6 (U #[.int .i64 1,.bool false,.int .u64 0,"",.int .i64 0,()] 147)) λ_ _=>id);have p:=A (And.intro h (And.intro m t));clear h m t c B a d j C D q r
 rotate_left
 focus
  have B:∀w:O,(method 565 178 (.bool b) "affidavit/node.sort").run prog w=.ok (346,.bool b) w:=λ_=>by kernel_rfl
  have a:∀w:O,(Instr.typeAssert (.iface 178 (.bool b)) 97 178 true).run prog w=.ok (.tuple #[b,.bool true]) w:=λ_=>by kernel_rfl
  have q:=A (λw=>aIf w b);have r:=A (λw=>aAp w b);go_enter func122,ntmps122;go_wp2_with fail;refine(q.o _).mono ?_;rintro e w1 ⟨rfl,f⟩;have l:=A f;clear f;go_wp2_with fail;refine(r.o _).mono ?_;rintro e w2 ⟨rfl,c⟩;have i:=A (chain l.o (((Below.refl w1 w1).alloc (Nat.le_refl _) (U #[.int .i64 2,b,.int .u64 0,"",.int .i64 0,()] 147)).trans (c.mono (by simp))));have y:=A (kU c);have z:=A (lU w2 (.int .i64 2) (.bool b) (.int .u64 0) (.string ⟨#[]⟩) (.int .i64 0) (J none 0 0) 147);obtain⟨E,h,m,t⟩:=F.o.A4 i.o;have H:=A (m.A2 ((Z (λ_=>False) w2).A6 (U #[.int .i64 2,b,.int .u64 0,"",.int .i64 0,()] 147)) λ_ _=>id);have p:=A (And.intro h (And.intro m t));clear h m t c B a q r
 rotate_left
 focus
  have B:∀w:O,(method 565 179 (.float .f64 x) "affidavit/node.sort").run prog w=.ok (348,.float .f64 x) w:=λ_=>by kernel_rfl
  have a:∀w:O,(Instr.typeAssert (.iface 179 (.float .f64 x)) 97 178 true).run prog w=.ok (.tuple #[.bool false,.bool false]) w:=λ_=>by kernel_rfl
  have d:∀w:O,(Instr.typeAssert (.iface 179 (.float .f64 x)) 97 179 true).run prog w=.ok (.tuple #[.float .f64 x,.bool true]) w:=λ_=>by kernel_rfl
  have C:=λw=>n8 x w
  have q:=A (λw=>aKp w x);have r:=A (λw=>aBX w x);go_enter func122,ntmps122;go_wp2_with fail;refine(q.o _).mono ?_;rintro e w1 ⟨rfl,f⟩;have l:=A f;clear f;go_wp2_with fail;refine(r.o _).mono ?_;rintro e w2 ⟨rfl,c⟩;have i:=A (chain l.o (((Below.refl w1 w1).alloc (Nat.le_refl _) (U #[.int .i64 3,.bool false,.int .u64 x,"",.int .i64 0,()] 147)).trans (c.mono (by simp))));have y:=A (kU c);have z:=A (lU w2 (.int .i64 3) (.bool false) (.int .u64 x) (.string ⟨#[]⟩) (.int .i64 0) (J none 0 0) 147);obtain⟨E,h,m,t⟩:=F.o.A4 i.o;have H:=A (m.A2 ((Z (λ_=>False) w2).A6 (U #[.int .i64 3,.bool false,.int .u64 x,"",.int .i64 0,()] 147)) λ_ _=>id);have p:=A (And.intro h (And.intro m t));clear h m t c B a d q r
 rotate_left
 focus
  have B:∀w:O,(method 565 180 (.string ⟨n.toArray⟩) "affidavit/node.sort").run prog w=.ok (350,.string ⟨n.toArray⟩) w:=λ_=>by kernel_rfl
  have a:∀w:O,(Instr.typeAssert (.iface 180 (.string ⟨n.toArray⟩)) 97 178 true).run prog w=.ok (.tuple #[.bool false,.bool false]) w:=λ_=>by kernel_rfl
  have d:∀w:O,(Instr.typeAssert (.iface 180 (.string ⟨n.toArray⟩)) 97 179 true).run prog w=.ok (.tuple #[.float .f64 0,.bool false]) w:=λ_=>by kernel_rfl
  have j:∀w:O,(Instr.typeAssert (.iface 180 (.string ⟨n.toArray⟩)) 97 180 true).run prog w=.ok (.tuple #[.string ⟨n.toArray⟩,.bool true]) w:=λ_=>by kernel_rfl
  have q:=A (λw=>aIg w ⟨n.toArray⟩);have r:=A (λw=>aAq w ⟨n.toArray⟩);go_enter func122,ntmps122;go_wp2_with fail;refine(q.o _).mono ?_;rintro e w1 ⟨rfl,f⟩;have l:=A f;clear f;go_wp2_with fail;refine(r.o _).mono ?_;rintro e w2 ⟨rfl,c⟩;have i:=A (chain l.o (((Below.refl w1 w1).alloc (Nat.le_refl _) (U #[.int .i64 4,.bool false,.int .u64 0,.string ⟨n.toArray⟩,.int .i64 0,()] 147)).trans (c.mono (by simp))));have y:=A (kU c);have z:=A (lU w2 (.int .i64 4) (.bool false) (.int .u64 0) (.string ⟨n.toArray⟩) (.int .i64 0) (J none 0 0) 147);obtain⟨E,h,m,t⟩:=F.o.A4 i.o;have H:=A (m.A2 ((Z (λ_=>False) w2).A6 (U #[.int .i64 4,.bool false,.int .u64 0,.string ⟨n.toArray⟩,.int .i64 0,()] 147)) λ_ _=>id);have p:=A (And.intro h (And.intro m t));clear h m t c B a d j q r
 rotate_left
 all_goals
  obtain⟨h,j,l,m,q,r,t⟩:=bJ y.o;go_wp2
  go_loopw [55,0] (λv o wr=>v=.int .i64 0/\o=J Q L.length R/\wr=w2) (λ_ _ _=>0)
  case atStart=>exact⟨rfl,rfl,rfl⟩
  case round=>
   obtain⟨rfl,rfl,rfl⟩:=hrel;have y:¬(0:Int)<0:=by omega
   go_wp2_with (at_builtin;refine bC aBW rfl _ _ rfl rfl H.o ⟨wr.heap.size,0,none⟩ 1 1 _ rfl rfl z.o (by intro u f;simp at f;rcases f with rfl|rfl|rfl|rfl|rfl|rfl<;>rfl) (by decide) ?_ ?_ ?_)
   .omega
   .unfold maxLen;omega
   intro g off cap z a c G;have d:=A (And.intro a (And.intro c G));clear a c G h j l m q r t;go_wp2;go_ret;exact aBY F.o i.o p.o.1 p.o.2.1 p.o.2.2 (Z _ _) (λk e=>X e) (.nil _ _ _) _ d.o.1 d.o.2.2 λk e=>d.o.2.1.imp (λa=>by cases e;exact a) λa=>by cases e;have:=a.1;(try simp at this);show wr.heap.size<=g;omega
def cS.N2{F:Nat->Prop}{v:N}(h:cS F w v t):cS (λk=>F k/\k<w.heap.size) w v t:=by
 induction h with
 | null=>exact .null
 | flag b=>exact .flag b
 | num x=>exact .num x
 | text s=>exact .text s
 | list b a d l j c i f o n=>exact .list b a d l ⟨j,lt_of_block c⟩ c ⟨i.1,λk e=>⟨i.2 k e,i.1.lt e⟩⟩ f n
 | object b g a d keys l j c m i f o n=>exact .object b g a d keys l ⟨j,lt_of_block c⟩ c ⟨m.1,λk e=>⟨m.2 k e,m.1.lt e⟩⟩ ⟨i.1,λk e=>⟨i.2 k e,i.1.lt e⟩⟩ f n
def zB{F:Nat->Prop}{a:Option Addr}{n c:Nat}{b:List N}{l:List Tr}(hn:l.length=n)(r:eK F 97 id w (J a n c) b)(d:b.length=l.length)(C:∀(i:Nat)(v:N)(t:Tr),b[i]?=I v->l[i]?=I t->cS F w v t)
 (Q:∀t∈l,tF t)(q:∀k,F k->V.ownBlock≠I k)(hl:L.length+(dX l).length<=1048576)(f:Below w w w2)(i:Nat)(hi:i<n)(o:N)(wr:O)(h:kN w2 V L l i o wr):
 ∃(T:TypeId)(x:N)(g off:Nat),a=I ⟨g,off,none⟩/\wr.cell? ⟨g,off+i,none⟩=I (.iface T x)/\Calls prog 122 #[o,.iface T x] wr λe w'=>∃y,e=Y y/\kN w2 V L l (i+1) y w':=by
 obtain⟨r,j⟩:=r;rcases r with⟨_,e⟩|⟨g,off,cap,G,P,D,-,-,-,m⟩
 .rw[e]at d;simp at d;omega
 .injection P with R x2 x3
  subst R;have p:l[i]?=I (l[i]'(by omega)):=List.getElem?_eq_getElem (by omega);have u:b[i]?=I (b[i]'(by omega)):=List.getElem?_eq_getElem (by omega);have W:=f.size;have s:=((C i _ _ u p).N2.A2 (K (λ_=>False) f) λ_ _=>id).A2 h.2.1 λk e=>q k e.1
  obtain⟨T,x,B⟩:=s.K5;rw[B]at s;refine⟨T,x,g,off,rfl,?_,(Q _ (List.getElem_mem (by omega)) _ wr _ o (L++dX (l.take i)) s h.1 (λk e E=>?_) ?_).mono λe w' H=>h.P2 p H⟩
  .rw[<-B];exact h.2.1.B3 ((aA (keep D f)).trans (m i _ u)) (q g (j g rfl))
  .rcases h.2.2 k E with z|z
   .exact q k e.1 z
   .have:=e.2;omega
  .have:=aA7 p;rw[List.length_append];omega
def aFA(F:Nat->Prop)(w:O)(a0:N)(L:List Stp)(b:Nat)(a:Option Addr)(c:Nat)(f:List N)(l:List Tr)(z0 z1 z2:Int)(z:cK 147 w a0 L)(T:L.length+(dX l).length+1<=1048576)
 (d:w.heap[b]?=I (U #[z0,z1,z2,J a l.length c] 186 (0,0)))(h:eK F 97 id w (J a l.length c) f)(m:f.length=l.length)(H:∀(i:Nat)(v:N)(t:Tr),f[i]?=I v->l[i]?=I t->cS F w v t)(P:∀t∈l,tF t)(Q:∀k,F k->a0.ownBlock≠I k):
 Calls prog 122 #[a0,.iface 181 (.pointer b)] w λe w'=>aA8 w a0 (L++(dX l++ [⟨5,false,0,[],l.length,[]⟩])) e w':=by
 obtain⟨C,D,rfl⟩:=z.A7;obtain⟨n,y⟩:∃n,l.length=n:=⟨_,rfl⟩;have E:=A z;have HN:=A y;rw[y]at h d;have HT:=A (λ(W:O)(j:Below w.heap.size w W)=>zB (w2:=W) y h m H P Q (by omega:L.length+(dX l).length<=1048576) j);have G:=A d;have R:=A (λ(W:O)(hW:Below w.heap.size w W)=>aAr W b a n c (.int .i64 z0) (.int .i64 z1) (.int .i64 z2) (keep d hW));have V:=A (λw=>aIh w b);have hm:∀w:O,(method 565 181 (.pointer b) "affidavit/node.sort").run prog w=.ok (352,.pointer b) w:=λ_=>by kernel_rfl
 have p:∀w:O,(Instr.typeAssert (.iface 181 (.pointer b)) 97 178 true).run prog w=.ok (.tuple #[.bool false,.bool false]) w:=λ_=>by kernel_rfl
 have q:∀w:O,(Instr.typeAssert (.iface 181 (.pointer b)) 97 179 true).run prog w=.ok (.tuple #[.float .f64 0,.bool false]) w:=λ_=>by kernel_rfl
 have r:∀w:O,(Instr.typeAssert (.iface 181 (.pointer b)) 97 180 true).run prog w=.ok (.tuple #["",.bool false]) w:=λ_=>by kernel_rfl
 have s:∀w:O,(Instr.typeAssert (.iface 181 (.pointer b)) 97 181 true).run prog w=.ok (.tuple #[.pointer b,.bool true]) w:=λ_=>by kernel_rfl
 have B:=tE l;rw[y]at B;have g4:n<=1048576:=by omega
 clear z h d m H P Q y;rw[HN.o];go_enter func122,ntmps122;go_wp2_with fail;refine(V.o _).mono ?_;rintro e w1 ⟨rfl,m⟩;have d:=chain m ((Below.refl w1 w1).alloc (Nat.le_refl _) (U #[.int .i64 5,.bool false,.int .u64 0,"",.int .i64 0,()] 147));have H:(w1.alloc (U #[.int .i64 5,.bool false,.int .u64 0,"",.int .i64 0,()] 147)).cell? ⟨b,3,none⟩=I (J a n c):=(aA (keep G.o d)).trans rfl;have y:=A m;clear m d;go_wp2_with fail;refine(R.o _ (chain y.o ((Below.refl w1 w1).alloc (Nat.le_refl _) _))).mono ?_;rintro e w2 ⟨rfl,j⟩;have z:=A (chain y.o (((Below.refl w1 w1).alloc (Nat.le_refl _) (U #[.int .i64 5,.bool false,.int .u64 0,"",.int .i64 n,()] 147)).trans (j.mono (by simp))));have P:=A (kU j);clear j hm p q r s V R H;have H:=A (show kN w2 (J C L.length D) L l 0 (J C L.length D) w2 from⟨by simpa[dX]using E.o.A4 z.o,Z _ _,λk e=>X e⟩);have Q:=A (HT.o w2 z.o);have R:=A T;clear T B;go_wp2
 go_loopw [55,0] (λv o wr=>∃i:Nat,v=.int .i64 i/\i<=n/\M (kN w2 (J C L.length D) L l i o wr)) (λv _ _=>n-(intOf v).toNat)
 case atStart=>exact⟨0,rfl,Nat.zero_le _,H⟩
 case round=>
  obtain⟨i,rfl,hi,r⟩:=hrel
  by_cases T:i<n
  .have e1:(i:Int)<(n:Int):=by omega
   have q:(0:Int)<=(i:Int):=by omega
   obtain⟨V,x,g,off,rfl,j,d⟩:=Q.o i T _ wr r.o;have p:=A d;clear d;go_wp2_with fail;refine p.o.mono ?_;rintro e s ⟨B,rfl,d⟩;have m:=A d;clear d;go_wp2_with fail;exact⟨⟨i+1,by go_num,by omega,m⟩,by simp[intOf];omega⟩
  .have e1:¬(i:Int)<(n:Int):=by omega
   obtain rfl:i=n:=by omega
   have d:=r.o.2.1.B7 P.o (λe=>by have:=E.o.lt e;have:=y.o.size;omega);obtain⟨x0,x1,x2,x3,x4,x5,-⟩:=bJ d;obtain⟨g5,j,h,s⟩:=r.o.1;have p:l.take i=l:=by rw[<-HN.o,List.take_length]
   have q:(L++dX (l.take i)).length<=1048575:=by rw[p,List.length_append];have:=R.o;omega
   obtain⟨B,m⟩:∃B,L++dX (l.take i)=B:=⟨_,rfl⟩;obtain⟨oa,oc,rfl⟩:=h.A7;rw[m]at j h s q⊢;have V:=A (lU wr (.int .i64 5) (.bool false) (.int .u64 0) (.string ⟨#[]⟩) (.int .i64 i) (J none 0 0) 147);have HW:=A (h.A2 ((Z (λ_=>False) wr).A6 (U #[.int .i64 5,.bool false,.int .u64 0,"",i,()] 147)) λ_ _=>id);have g2:=A (And.intro j (And.intro h (And.intro s (show B=L++dX l by rw[<-m,p]))));have g3:=A (show ∀k,(J oa B.length oc).ownBlock=I k->(J C L.length D).ownBlock=I k\/w2.heap.size<=k from by rw[<-m];exact r.o.2.2);clear j h s d p m
   go_wp2_with (at_builtin;refine bC aBW rfl _ _ rfl rfl HW.o ⟨wr.heap.size,0,none⟩ 1 1 _ rfl rfl V.o (by intro u hu;simp at hu;rcases hu with rfl|rfl|rfl|rfl|rfl|rfl<;>rfl) (by decide) ?_ ?_ ?_)
   .omega
   .unfold maxLen;omega
   intro g off cap w4 d m hk;have p:=A (And.intro d (And.intro m hk));clear d m hk x0 x1 x2 x3 x4 x5;go_wp2;go_ret;obtain⟨j,h,s,d⟩:=g2.o;rw[<-List.append_assoc,<-d];exact aBY E.o z.o j h s r.o.2.1 g3.o (.nil _ _ _) _ p.o.1 p.o.2.2 λk e=>p.o.2.1.imp (λm=>by cases e;exact m) λm=>by cases e;have:=m.1;(try simp at this);show wr.heap.size<=g;omega
def aBZ(F:Nat->Prop)(w:O)(a0:N)(L:List Stp)(b:Nat)(a G:Option Addr)(c H:Nat)(j:List N)(keys:List Oo)(l:List Tr)(z0 z1 z2:Int)(E:cK 147 w a0 L)(hl:L.length+(dX l).length+1<=1048576)
 (d:w.heap[b]?=I (U #[z0,z1,z2,J G keys.length H,J a l.length c] 189 (0,0)))(r:Win 9 encS w (J G keys.length H) keys)(m:eK F 97 id w (J a l.length c) j)(h:j.length=l.length)(R:∀(i:Nat)(v:N)(t:Tr),j[i]?=I v->l[i]?=I t->cS F w v t)(T:∀t∈l,tF t)(V:∀k,F k->a0.ownBlock≠I k)(C:keys.length<=1048576):
 Calls prog 122 #[a0,.iface 187 (.pointer b)] w λe w'=>aA8 w a0 (L++(dX l++ [⟨6,false,0,[],0,keys⟩])) e w':=by
 obtain⟨va,vc,rfl⟩:=E.A7;obtain⟨n,D⟩:∃n,l.length=n:=⟨_,rfl⟩;have HV:=A E;have HN:=A D;rw[D]at m d;have HT:=A (λ(W:O)(f:Below w.heap.size w W)=>zB (w2:=W) D m h R T V (by omega:L.length+(dX l).length<=1048576) f);have g2:=A d;have HI:=A (λ(W:O)(hW:Below w.heap.size w W)=>wD W b a n c G keys.length H (.int .i64 z0) (.int .i64 z1) (.int .i64 z2) (keep d hW));have P:=A (λ(W:O)(hW:Below w.heap.size w W)=>qG W (J G keys.length H) keys C (r.A2 (K (λ_=>False) hW) λ_ _=>id));have HS:=A (λw=>aDH w b);have hm:∀w:O,(method 565 187 (.pointer b) "affidavit/node.sort").run prog w=.ok (353,.pointer b) w:=λ_=>by kernel_rfl
 have q:∀w:O,(Instr.typeAssert (.iface 187 (.pointer b)) 97 178 true).run prog w=.ok (.tuple #[.bool false,.bool false]) w:=λ_=>by kernel_rfl
 have s:∀w:O,(Instr.typeAssert (.iface 187 (.pointer b)) 97 179 true).run prog w=.ok (.tuple #[.float .f64 0,.bool false]) w:=λ_=>by kernel_rfl
 have y:∀w:O,(Instr.typeAssert (.iface 187 (.pointer b)) 97 180 true).run prog w=.ok (.tuple #["",.bool false]) w:=λ_=>by kernel_rfl
 have z:∀w:O,(Instr.typeAssert (.iface 187 (.pointer b)) 97 181 true).run prog w=.ok (.tuple #[.pointer none,.bool false]) w:=λ_=>by kernel_rfl
 have B:∀w:O,(Instr.typeAssert (.iface 187 (.pointer b)) 97 187 true).run prog w=.ok (.tuple #[.pointer b,.bool true]) w:=λ_=>by kernel_rfl
 have Q:=tE l;rw[D]at Q;have g9:n<=1048576:=by omega
 clear E m d h R T V D r C;go_enter func122,ntmps122;go_wp2_with fail;refine(HS.o _).mono ?_;rintro e w1 ⟨rfl,h⟩;have d:=chain h ((Below.refl w1 w1).alloc (Nat.le_refl _) (U #[.int .i64 6,.bool false,.int .u64 0,"",.int .i64 0,()] 147));have g3:(w1.alloc (U #[.int .i64 6,.bool false,.int .u64 0,"",.int .i64 0,()] 147)).cell? ⟨b,3,none⟩=I (J G keys.length H):=(aA (keep g2.o d)).trans rfl;have r:=A h;clear h d;go_wp2_with fail;refine(P.o _ (chain r.o ((Below.refl w1 w1).alloc (Nat.le_refl _) _))).mono ?_;rintro e w5 ⟨kv,rfl,C,R,D⟩;obtain⟨d,h,rfl⟩:=C.A7;have E:=kU D;obtain⟨-,-,-,-,-,x5,xf⟩:=bJ E;have T:=A ((chain (chain r.o ((Below.refl w1 w1).alloc (Nat.le_refl _) (U #[.int .i64 6,.bool false,.int .u64 0,"",.int .i64 0,()] 147))) D).setCell (p:=⟨w1.heap.size,5,none⟩) r.o.size (J d keys.length h));have g4:=A (aB (o:=5) E (J d keys.length h));have V:=A (C.A2 ((Z (λk=>k=w1.heap.size) w5).own 5 (J d keys.length h)) λk e e2=>by have:=(R k e).1;simp at this;omega);clear C R D E g3;go_wp2_with fail;refine(HI.o _ T.o).mono ?_;rintro e w2 ⟨rfl,f⟩;have C:=A (chain T.o f);have R:=A (show w2.heap[w1.heap.size]?=I (U #[.int .i64 6,.bool false,.int .u64 0,"",.int .i64 0,J d keys.length h] 147 (0,0))from keep g4.o f);have g3:=A (V.o.A2 (K (λ_=>False) f) λ_ _=>id);clear f hm q s y z B HS HI P x5 xf V;have P:=A (show kN w2 (J va L.length vc) L l 0 (J va L.length vc) w2 from⟨by simpa[dX]using HV.o.A4 C.o,Z _ _,λk e=>X e⟩);have V:=A (HT.o w2 C.o);have g5:=A hl;clear hl Q;go_wp2
 go_loopw [55,0] (λv o wr=>∃i:Nat,v=.int .i64 i/\i<=n/\M (kN w2 (J va L.length vc) L l i o wr)) (λv _ _=>n-(intOf v).toNat)
 case atStart=>exact⟨0,rfl,Nat.zero_le _,P⟩
 case round=>
  obtain⟨i,rfl,hi,B⟩:=hrel
  by_cases Q:i<n
  .have e1:(i:Int)<(n:Int):=by omega
   have z:(0:Int)<=(i:Int):=by omega
   obtain⟨a1,x,g,off,rfl,q,f⟩:=V.o i Q _ wr B.o;have y:=A f;clear f;go_wp2_with fail;refine y.o.mono ?_;rintro e D ⟨E,rfl,f⟩;have s:=A f;clear f;go_wp2_with fail;exact⟨⟨i+1,by go_num,by omega,s⟩,by simp[intOf];omega⟩
  .have e1:¬(i:Int)<(n:Int):=by omega
   obtain rfl:i=n:=by omega
   have f:=B.o.2.1.B7 R.o (λe=>by have:=HV.o.lt e;have:=r.o.size;omega);obtain⟨x0,x1,x2,x3,x4,x5,-⟩:=bJ f;obtain⟨h0,q,m,D⟩:=B.o.1;have y:l.take i=l:=by rw[<-HN.o,List.take_length]
   have z:(L++dX (l.take i)).length<=1048575:=by rw[y,List.length_append];have:=g5.o;omega
   obtain⟨E,s⟩:∃E,L++dX (l.take i)=E:=⟨_,rfl⟩;obtain⟨oa,oc,rfl⟩:=m.A7;rw[s]at q m D z⊢;have g6:=A (lU wr (.int .i64 6) (.bool false) (.int .u64 0) (.string ⟨#[]⟩) (.int .i64 0) (J d keys.length h) 147);have HW:=A (m.A2 ((Z (λ_=>False) wr).A6 (U #[.int .i64 6,.bool false,.int .u64 0,"",.int .i64 0,J d keys.length h] 147)) λ_ _=>id);have g7:=A (And.intro q (And.intro m (And.intro D (show E=L++dX l by rw[<-s,y]))));have g8:=A (show ∀k,(J oa E.length oc).ownBlock=I k->(J va L.length vc).ownBlock=I k\/w2.heap.size<=k from by rw[<-s];exact B.o.2.2);clear q m D f y s
   go_wp2_with (at_builtin;refine bC aBW rfl _ _ rfl rfl HW.o ⟨wr.heap.size,0,none⟩ 1 1 _ rfl rfl g6.o (by intro u hu;simp at hu;rcases hu with rfl|rfl|rfl|rfl|rfl|rfl<;>rfl) (by decide) ?_ ?_ ?_)
   .omega
   .unfold maxLen;omega
   intro g off cap w4 f s hk;have y:=A (And.intro f (And.intro s hk));clear f s hk x0 x1 x2 x3 x4 x5;go_wp2;go_ret;obtain⟨q,m,D,e2⟩:=g7.o;rw[<-List.append_assoc,<-e2];exact aBY HV.o C.o q m D B.o.2.1 g8.o g3.o _ y.o.1 y.o.2.2 λk e=>y.o.2.1.imp (λf=>by cases e;exact f) λf=>by cases e;have:=f.1;(try simp at this);show wr.heap.size<=g;omega
def aB0(h:Small t):tF t:=by
 induction h with
 | null=>intro F w v V L g j k e;cases g;rw[Tr.T8]at e⊢;exact nF w V _ L _ j e (X ⟨rfl,rfl⟩)
 | flag b=>intro F w v V L g j k e;cases g;rw[Tr.T8]at e⊢;exact nF w V _ L _ j e (S (X ⟨b,rfl,rfl⟩))
 | num x=>intro F w v V L g j k e;cases g;rw[Tr.T8]at e⊢;exact nF w V _ L _ j e (S (S (X ⟨x,rfl,rfl⟩)))
 | text s=>intro F w v V L g j k e;cases g;rw[Tr.T8]at e⊢;exact nF w V _ L _ j e (S (S (S ⟨s,rfl,rfl⟩)))
 | list l o h p=>
  intro F w v V L g j k e;rw[tD]at e⊢;rw[List.length_append,List.length_singleton]at e;cases g with
  | list b u i l r f m d g=>
   obtain⟨a,c,rfl⟩:=m.1.A7;rw[d]at m f;exact aFA F w V L b a c i l _ _ _ j (by omega) f m d g p k
 | object keys l z o h p=>
  intro F w v V L g j k e;rw[nE]at e⊢;rw[List.length_append,List.length_singleton]at e;cases g with
  | object b B u i keys l r f n m d g=>
   obtain⟨a,c,rfl⟩:=m.1.A7;obtain⟨q,y,rfl⟩:=n.1.A7;rw[d]at m f;exact aBZ F w V L b a q c y i keys l _ _ _ j (by omega) f n.1 m d g p k (by omega)
def aKq(w:O)(L:List Stp)(e:Ending)(w':O):Prop:=∃V,e=Y V/\cK 147 w' V L/\Below w w w'/\∀k,V.ownBlock=I k->w.heap.size<=k
def aIi(w:O)(T:TypeId)(x:N):(binOp .eql 97 (.iface T x) .nilIface).run prog w=.ok (.bool false) w:=by kernel_rfl
def aB1(h:Small t)(F:Nat->Prop)(w:O)(T:TypeId)(x:N)(d:cS F w (.iface T x) t)(l:t.T8.length<=1048576):Calls prog 92 #[.agg #[.iface T x]] w λe w'=>aKq w t.T8 e w':=by
 have a:=(Below.refl w.heap.size w).alloc (Nat.le_refl _) (U #[.iface T x] 99);have m:=A (aB0 h F (w.alloc (U #[.iface T x] 99)) _ (J none 0 0) [] (d.A2 (K (λ_=>False) a) λ_ _=>id) (cK.nil _ _) (λk _ e=>by cases e) (by simpa using l));have n:(w.alloc (U #[.iface T x] 99)).cell? ⟨w.heap.size,0,none⟩=I (.iface T x):=cell_of_one (heap_alloc_new w _);have j:=λw=>aIi w T x
 have c:=A a;clear a d;go_enter func92,ntmps92;go_wp2_with fail;refine m.o.mono ?_;rintro e w1 ⟨V,rfl,g,f,i⟩;have b:=A (And.intro g (And.intro f i));clear g f i;go_wp2;go_ret
 exact⟨V,rfl,by simpa using b.o.1,c.o.trans (b.o.2.1.C6 c.o.size λk e=>by cases e),λk e=>by
  rcases b.o.2.2 k e with e|e
  .cases e
  .exact Nat.le_trans c.o.size e⟩
def aLB(w:O)(b:Nat)(T:TypeId)(x:N)(a:w.heap[b]?=I (U #[.iface T x] 176 (0,0))):Calls prog 49 #[.pointer b] w λe w'=>e=Y (.agg #[.iface T x])/\Below w w w':=by
 have f:w.cell? b=I (.iface T x):=cell_of_one a;have d:=lt_of_block a;clear a;go_enter func49,ntmps49;go_wp2_with fail;have c:(w.alloc (U #[.iface T x] 99)).cell? w=I (.iface T x):=cell_of_one (heap_alloc_new w _);exact bodyPost_ret (v:=.agg #[.iface T x]) (by simp[results,results49,go_sem,c]) rfl ⟨rfl,(Below.refl w w).alloc (Nat.le_refl _) _⟩
def aAs(h:Small t)(F:Nat->Prop)(w:O)(b:Nat)(T:TypeId)(x:N)(i:w.heap[b]?=I (U #[.iface T x] 176 (0,0)))(g:cS F w (.iface T x) t)(o:t.T8.length<=1048576):Calls prog 59 #[.pointer b] w λe w'=>aKq w t.T8 e w':=by
 have n:=A (aLB w b T x i);have p:=A (λW(m:Below w w W)=>aB1 h F W T x (g.A2 (K (λ_=>False) m) λ_ _=>id) o);clear i g h;go_enter func59,ntmps59;go_wp2_with fail;refine n.o.mono ?_;rintro e w1 ⟨rfl,d⟩;have a:=A d;clear d;go_wp2_with fail;refine(p.o w1 a.o).mono ?_;rintro e w2 ⟨V,rfl,j,c,l⟩;have f:=A (And.intro j (And.intro c l));clear j c l;go_wp2;go_ret;exact⟨V,rfl,f.o.1,chain a.o f.o.2.1,λk e=>Nat.le_trans a.o.size (f.o.2.2 k e)⟩
