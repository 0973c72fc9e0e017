/-
  The program, one part of its walk. Conditions: none.
-/
import Derived.Test.YtakkmiomhackiaaGreatDoorTd30
set_option linter.all false
set_option maxRecDepth 100000
set_option maxHeartbeats 16000000
open Go.Proofs.Tryz
open Bool renaming false->X,true->ai
open Go renaming Calls->ae,Value->az,World->Z,heap_alloc_new->ao,lt_of_block->bw,maxLen->av,rounds_succ->bs,wp_loop_rounds->bp
open Go.Addr renaming add_lit->bh
open Go.Ending renaming returned->ac
open Go.Instr renaming typeAssert->bm
open Go.IntKind renaming i64->N,u8->O,wrap_i64->bz,wrap_u8->cg
open Go.Obj renaming cells->V
open Go.Proofs.Tryz renaming func178->ba,ntmps178->bc,prog->K
open Go.Proofs.YtakkmiomhackiaaGreatDoor.Keeps renaming A3->bk
open Go.Proofs.YtakkmiomhackiaaGreatDoor.Row renaming E0->bg
open Go.Proofs.YtakkmiomhackiaaGreatDoor.Win renaming I6->bj
open Go.RowKit renaming Below->au
open Go.RowKit.Below renaming refl->ak
open Go.Value renaming agg->H,bool->Y,iface->D,int->I,pointer->af,slice->ag,string->ah,tuple->ar
open Nat renaming le_refl->aj,le_trans->bu
open Option renaming none->J,some->S
open Or renaming inl->E,inr->aw
open UInt8 renaming ofNat->U
open UInt8.toNat renaming inj->bx
namespace Go.Proofs.YtakkmiomhackiaaGreatDoor
open Go.RowKit
def gQ(b:Nat):Pc (List UInt8×Nat)->az
 | .cut=>H #[ah ⟨#[]⟩,I N 0,I N 0,I N 0,Y ai]
 | .bad no a=>H #[ah ⟨#[]⟩,I N 0,I N (no:Int),I N ((b+a:Nat):Int),Y X]
 | .ok x=>H #[ah ⟨x.1.toArray⟩,I N (x.2:Int),I N 0,I N 0,Y X]
theorem bE{w f:Z}{b:Nat}{m l k j n:az}{T:TypeId}(e i d c g:az)(h:w.heap[b]?=S (V #[m,l,k,j,n] T (0,0)))(q:au f.heap.size f w)(a:f.heap.size<=b):
 (((((w.setCell ⟨b,0,J⟩ e).setCell ⟨b,1,J⟩ i).setCell ⟨b,2,J⟩ d).setCell ⟨b,3,J⟩ c).setCell ⟨b,4,J⟩ g).heap[b]?=S (V #[e,i,d,c,g] T (0,0))/\
 au f.heap.size f (((((w.setCell ⟨b,0,J⟩ e).setCell ⟨b,1,J⟩ i).setCell ⟨b,2,J⟩ d).setCell ⟨b,3,J⟩ c).setCell ⟨b,4,J⟩ g):=
 ⟨aB (o:=4) (aB (o:=3) (aB (o:=2) (aB (o:=1) (aB (o:=0) h e) i) d) c) g,((((q.setCell (p:=⟨b,0,J⟩) a e).setCell (p:=⟨b,1,J⟩) a i).setCell (p:=⟨b,2,J⟩) a d).setCell (p:=⟨b,3,J⟩) a c).setCell (p:=⟨b,4,J⟩) a g⟩
theorem l0(w:Z)(no a:Nat):ae K 156 #[I N no,I N a] w λe w'=>e=ac (H #[ah ⟨#[]⟩,I N 0,I N (no:Int),I N (a:Int),Y X])/\au w.heap.size w w':=by
 go_enter func156,ntmps156;go_wp2;exact bodyPost_ret (v:=H #[ah ⟨#[]⟩,I N 0,I N (no:Int),I N (a:Int),Y X]) (by simp[results,results156,go_sem]) rfl ⟨rfl,(ak _ _).alloc (aj _) _⟩
def gK(c:UInt8):Int:=match cO c with
 | some b=>(b.toNat:Int)
 | none=> -1
theorem aB8(w:Z)(c:UInt8):ae K 176 #[I O ((c.toNat:Nat):Int)] w λe w'=>e=ac (I N (gK c))/\w'=w:=by
 have d:∃k,(k=0/\c=34/\gK c=34)\/(k=1/\c=92/\gK c=92)\/(k=2/\c=47/\gK c=47)\/(k=3/\c=98/\gK c=8)\/(k=4/\c=102/\gK c=12)\/(k=5/\c=110/\gK c=10)\/(k=6/\c=114/\gK c=13)\/(k=7/\c=116/\gK c=9)\/
  (k=8/\(c≠34/\c≠92/\c≠47/\c≠98/\c≠102/\c≠110/\c≠114/\c≠116)/\gK c= -1):=by
  by_cases b:c=34
  .subst b;exact⟨0,E ⟨rfl,rfl,rfl⟩⟩
  by_cases f:c=92
  .subst f;exact⟨1,by simp[gK,cO]⟩
  by_cases a:c=47
  .subst a;exact⟨2,by simp[gK,cO]⟩
  by_cases g:c=98
  .subst g;exact⟨3,by simp[gK,cO]⟩
  by_cases h:c=102
  .subst h;exact⟨4,by simp[gK,cO]⟩
  by_cases i:c=110
  .subst i;exact⟨5,by simp[gK,cO]⟩
  by_cases j:c=114
  .subst j;exact⟨6,by simp[gK,cO]⟩
  by_cases l:c=116
  .subst l;exact⟨7,by simp[gK,cO]⟩
  exact⟨8,by simp[gK,cO,b,f,a,g,h,i,j,l]⟩
 obtain⟨k,d⟩:=d
 have b:∀{x:UInt8},c≠x->¬((x.toNat:Nat):Int)=((c.toNat:Nat):Int)/\(((x.toNat:Nat):Int)==((c.toNat:Nat):Int))=X:=λo=>by
  have a:∀x:UInt8,c≠x->¬((x.toNat:Nat):Int)=((c.toNat:Nat):Int):=λx d e=>d (bx (by omega))
  exact⟨a _ o,by simpa using a _ o⟩
 have p:(((⟨#[34,92,47,98,102,110,114,116]⟩:ByteArray)[0].toNat:Nat):Int)=34:=rfl;have q:(((⟨#[34,92,47,8,12,10,13,9]⟩:ByteArray)[0].toNat:Nat):Int)=34:=rfl;have r:(((⟨#[34,92,47,98,102,110,114,116]⟩:ByteArray)[1].toNat:Nat):Int)=92:=rfl;have s:(((⟨#[34,92,47,8,12,10,13,9]⟩:ByteArray)[1].toNat:Nat):Int)=92:=rfl;have t:(((⟨#[34,92,47,98,102,110,114,116]⟩:ByteArray)[2].toNat:Nat):Int)=47:=rfl;have u:(((⟨#[34,92,47,8,12,10,13,9]⟩:ByteArray)[2].toNat:Nat):Int)=47:=rfl;have v:(((⟨#[34,92,47,98,102,110,114,116]⟩:ByteArray)[3].toNat:Nat):Int)=98:=rfl;have y:(((⟨#[34,92,47,8,12,10,13,9]⟩:ByteArray)[3].toNat:Nat):Int)=8:=rfl;have z:(((⟨#[34,92,47,98,102,110,114,116]⟩:ByteArray)[4].toNat:Nat):Int)=102:=rfl;have A:(((⟨#[34,92,47,8,12,10,13,9]⟩:ByteArray)[4].toNat:Nat):Int)=12:=rfl;have B:(((⟨#[34,92,47,98,102,110,114,116]⟩:ByteArray)[5].toNat:Nat):Int)=110:=rfl;have C:(((⟨#[34,92,47,8,12,10,13,9]⟩:ByteArray)[5].toNat:Nat):Int)=10:=rfl;have F:(((⟨#[34,92,47,98,102,110,114,116]⟩:ByteArray)[6].toNat:Nat):Int)=114:=rfl;have G:(((⟨#[34,92,47,8,12,10,13,9]⟩:ByteArray)[6].toNat:Nat):Int)=13:=rfl;have P:(((⟨#[34,92,47,98,102,110,114,116]⟩:ByteArray)[7].toNat:Nat):Int)=116:=rfl;have Q:(((⟨#[34,92,47,8,12,10,13,9]⟩:ByteArray)[7].toNat:Nat):Int)=9:=rfl;rcases d with⟨rfl,rfl,a⟩|⟨rfl,rfl,a⟩|⟨rfl,rfl,a⟩|⟨rfl,rfl,a⟩|⟨rfl,rfl,a⟩|⟨rfl,rfl,a⟩|⟨rfl,rfl,a⟩|⟨rfl,rfl,a⟩|⟨rfl,⟨f,g,h,i,j,l,m,n⟩,a⟩
 case inr.inr.inr.inr.inr.inr.inr.inr=>
  rw[a];have R:((34:Int)==((c.toNat:Nat):Int))=X:=(b f).2;have b1:((92:Int)==((c.toNat:Nat):Int))=X:=(b g).2;have b2:((47:Int)==((c.toNat:Nat):Int))=X:=(b h).2;have b3:((98:Int)==((c.toNat:Nat):Int))=X:=(b i).2;have b4:((102:Int)==((c.toNat:Nat):Int))=X:=(b j).2;have T:((110:Int)==((c.toNat:Nat):Int))=X:=(b l).2;have W:((114:Int)==((c.toNat:Nat):Int))=X:=(b m).2;have b7:((116:Int)==((c.toNat:Nat):Int))=X:=(b n).2;clear a b f g h i j l m n;go_enter func176,ntmps176;go_wp2_with fail;refine bp 9 ?_
  iterate 9 (rw[bs];go_wp2_with fail)
  go_ret;exact⟨rfl,rfl⟩
 all_goals
  rw[a];clear a b;go_enter func176,ntmps176;go_wp2_with fail;refine bp 9 ?_
  iterate 9 (try(rw[bs];go_wp2_with fail))
  go_ret;exact⟨rfl,rfl⟩
theorem aB9(w:Z)(n:Nat)(b:n<=1114111)(a:n<55296\/57343<n):ae K 198 #[I .i32 n] w λe w'=>e=ac (Y ai)/\w'=w:=by
 have a1:(0:Int)<=(n:Int):=by omega
 have a2:(n:Int)<=1114111:=by omega
 rcases a with a|a
 .have a3:(n:Int)<55296:=by omega
  go_enter func198,ntmps198;go_wp2_with fail;go_ret;exact⟨rfl,rfl⟩
 .have a3:¬(n:Int)<55296:=by omega
  have a4:(57343:Int)<(n:Int):=by omega
  go_enter func198,ntmps198;go_wp2_with fail;go_ret;exact⟨rfl,rfl⟩
theorem tI(w:Z)(n:Nat)(Q:n<=1114111)(R:n<55296\/57343<n):ae K 178 #[I .i32 n] w λe w'=>e=ac (ah ⟨(aS n).toArray⟩)/\au w.heap.size w w':=by
 have m:=L (λW:Z=>aB9 W n Q R);have c1:N.wrap (n:Int)=(n:Int):=by rw[bz];omega
 have h:∀x:Nat,x<256->O.wrap (x:Int)=(((U x).toNat:Nat):Int):=λx hx=>by rw[cg];simp
 unfold aS
 by_cases C:n<128
 .rw[if_pos C];have a1:(n:Int)<128:=by omega
  have p:O.wrap ((n:Int))=(((U (n)).toNat:Nat):Int):=by rw[show((n:Int):Int)=((n:Nat):Int) by omega];exact h _ (by omega)
  obtain⟨i,d⟩:∃x,U (n)=x:=⟨_,rfl⟩;rw[d]at p;rw[d];clear h d;go_enter ba,bc;go_wp2_with fail;refine(m.o _).mono ?_;rintro e w1 ⟨rfl,rfl⟩
  go_wp2_with (at_builtin;refine iY (B:=w1.heap.size) (enc:=cC) nF rfl _ _ rfl rfl (bg _ _ _ _) ⟨w1.heap.size,0,J⟩ 1 1 [i] rfl rfl ?_ ?_ ?_ ?_ ?_ ?_ ?_)
  .decide
  .intro j y l;rw[bh,aA (ao w1 _)];rcases j with _|j<;>simp at l<;>subst l<;>rfl
  .intro y;rfl
  .decide
  .simp;unfold av;omega
  .simp
  intro b cap z c a;have q:=((ak w1.heap.size w1).alloc (aj _) (V #[I O ((i.toNat:Nat):Int)] 5)).grown a (by simp) (λk r=>by cases r);have s:=fH (bj c);clear c a;go_wp2_with fail;go_ret;exact⟨rfl,q⟩
 rw[if_neg C];have b1:decide ((n:Int)<128)=X:=decide_eq_false (by omega)
 by_cases F:n<2048
 .rw[if_pos F];have a2:(n:Int)<2048:=by omega
  have p:O.wrap (192+(n:Int)/64)=(((U (192+n/64)).toNat:Nat):Int):=by rw[show(192+(n:Int)/64:Int)=((192+n/64:Nat):Int) by omega];exact h _ (by omega)
  have u:O.wrap (128+(n:Int)%64)=(((U (128+n%64)).toNat:Nat):Int):=by rw[show(128+(n:Int)%64:Int)=((128+n%64:Nat):Int) by omega];exact h _ (by omega)
  obtain⟨i,d⟩:∃x,U (192+n/64)=x:=⟨_,rfl⟩;rw[d]at p;obtain⟨o,f⟩:∃x,U (128+n%64)=x:=⟨_,rfl⟩;rw[f]at u;rw[d,f];clear h d f;go_enter ba,bc;go_wp2_with fail;refine(m.o _).mono ?_;rintro e w1 ⟨rfl,rfl⟩
  go_wp2_with (at_builtin;refine iY (B:=w1.heap.size) (enc:=cC) nF rfl _ _ rfl rfl (bg _ _ _ _) ⟨w1.heap.size,0,J⟩ 2 2 [i,o] rfl rfl ?_ ?_ ?_ ?_ ?_ ?_ ?_)
  .decide
  .intro j y l;rw[bh,aA (ao w1 _)];rcases j with _|_|j<;>simp at l<;>subst l<;>rfl
  .intro y;rfl
  .decide
  .simp;unfold av;omega
  .simp
  intro b cap z c a;have q:=((ak w1.heap.size w1).alloc (aj _) (V #[I O ((i.toNat:Nat):Int),I O ((o.toNat:Nat):Int)] 5)).grown a (by simp) (λk r=>by cases r);have s:=fH (bj c);clear c a;go_wp2_with fail;go_ret;exact⟨rfl,q⟩
 rw[if_neg F];have b2:decide ((n:Int)<2048)=X:=decide_eq_false (by omega)
 by_cases G:n<65536
 .rw[if_pos G];have a3:(n:Int)<65536:=by omega
  have p:O.wrap (224+(n:Int)/4096)=(((U (224+n/4096)).toNat:Nat):Int):=by rw[show(224+(n:Int)/4096:Int)=((224+n/4096:Nat):Int) by omega];exact h _ (by omega)
  have u:O.wrap (128+(n:Int)/64%64)=(((U (128+n/64%64)).toNat:Nat):Int):=by rw[show(128+(n:Int)/64%64:Int)=((128+n/64%64:Nat):Int) by omega];exact h _ (by omega)
  have A:O.wrap (128+(n:Int)%64)=(((U (128+n%64)).toNat:Nat):Int):=by rw[show(128+(n:Int)%64:Int)=((128+n%64:Nat):Int) by omega];exact h _ (by omega)
  obtain⟨i,d⟩:∃x,U (224+n/4096)=x:=⟨_,rfl⟩;rw[d]at p;obtain⟨o,f⟩:∃x,U (128+n/64%64)=x:=⟨_,rfl⟩;rw[f]at u;obtain⟨v,g⟩:∃x,U (128+n%64)=x:=⟨_,rfl⟩;rw[g]at A;rw[d,f,g];clear h d f g;go_enter ba,bc;go_wp2_with fail;refine(m.o _).mono ?_;rintro e w1 ⟨rfl,rfl⟩
  go_wp2_with (at_builtin;refine iY (B:=w1.heap.size) (enc:=cC) nF rfl _ _ rfl rfl (bg _ _ _ _) ⟨w1.heap.size,0,J⟩ 3 3 [i,o,v] rfl rfl ?_ ?_ ?_ ?_ ?_ ?_ ?_)
  .decide
  .intro j y l;rw[bh,aA (ao w1 _)];rcases j with _|_|_|j<;>simp at l<;>subst l<;>rfl
  .intro y;rfl
  .decide
  .simp;unfold av;omega
  .simp
  intro b cap z c a;have q:=((ak w1.heap.size w1).alloc (aj _) (V #[I O ((i.toNat:Nat):Int),I O ((o.toNat:Nat):Int),I O ((v.toNat:Nat):Int)] 5)).grown a (by simp) (λk r=>by cases r);have s:=fH (bj c);clear c a;go_wp2_with fail;go_ret;exact⟨rfl,q⟩
 rw[if_neg G];have b3:decide ((n:Int)<65536)=X:=decide_eq_false (by omega);have p:O.wrap (240+(n:Int)/262144)=(((U (240+n/262144)).toNat:Nat):Int):=by rw[show(240+(n:Int)/262144:Int)=((240+n/262144:Nat):Int) by omega];exact h _ (by omega)
 have u:O.wrap (128+(n:Int)/4096%64)=(((U (128+n/4096%64)).toNat:Nat):Int):=by rw[show(128+(n:Int)/4096%64:Int)=((128+n/4096%64:Nat):Int) by omega];exact h _ (by omega)
 have A:O.wrap (128+(n:Int)/64%64)=(((U (128+n/64%64)).toNat:Nat):Int):=by rw[show(128+(n:Int)/64%64:Int)=((128+n/64%64:Nat):Int) by omega];exact h _ (by omega)
 have T:O.wrap (128+(n:Int)%64)=(((U (128+n%64)).toNat:Nat):Int):=by rw[show(128+(n:Int)%64:Int)=((128+n%64:Nat):Int) by omega];exact h _ (by omega)
 obtain⟨i,d⟩:∃x,U (240+n/262144)=x:=⟨_,rfl⟩;rw[d]at p;obtain⟨o,f⟩:∃x,U (128+n/4096%64)=x:=⟨_,rfl⟩;rw[f]at u;obtain⟨v,g⟩:∃x,U (128+n/64%64)=x:=⟨_,rfl⟩;rw[g]at A;obtain⟨P,t⟩:∃x,U (128+n%64)=x:=⟨_,rfl⟩;rw[t]at T;rw[d,f,g,t];clear h d f g t;go_enter ba,bc;go_wp2_with fail;refine(m.o _).mono ?_;rintro e w1 ⟨rfl,rfl⟩
 go_wp2_with (at_builtin;refine iY (B:=w1.heap.size) (enc:=cC) nF rfl _ _ rfl rfl (bg _ _ _ _) ⟨w1.heap.size,0,J⟩ 4 4 [i,o,v,P] rfl rfl ?_ ?_ ?_ ?_ ?_ ?_ ?_)
 .decide
 .intro j y l;rw[bh,aA (ao w1 _)];rcases j with _|_|_|_|j<;>simp at l<;>subst l<;>rfl
 .intro y;rfl
 .decide
 .simp;unfold av;omega
 .simp
 intro b cap z c a;have q:=((ak w1.heap.size w1).alloc (aj _) (V #[I O ((i.toNat:Nat):Int),I O ((o.toNat:Nat):Int),I O ((v.toNat:Nat):Int),I O ((P.toNat:Nat):Int)] 5)).grown a (by simp) (λk r=>by cases r);have s:=fH (bj c);clear c a;go_wp2_with fail;go_ret;exact⟨rfl,q⟩
theorem aCM(F:Nat->Prop)(a:Z)(p:Nat)(x:Ps)(s:LS)(toks:List Tok)(d:aG F a p x s toks)(f:pY x 1073741824)(m:x.items.length<=1048576):
 ae K 114 #[af (S ⟨p,0,J⟩),D 102 (H #[])] a λe w'=>e=ac (ar #[])/\Keeps F a w'/\aG (Since F a w') w' p (Ps.C7 {x with items:=aY x.items .null}) s toks:=by
 have y:∀w:Z,(bm (D 102 (H #[])) 39 102 ai).run K w=.ok (ar #[H #[],Y ai]) w:=λ_=>by kernel_rfl
 have c:=d.lt;have b:Keeps (λ_=>False) a (a.alloc (V #[] 102)):=(bk _ a).A4 _;have d:=d.B6 b (λ_ _=>id);obtain⟨w,z⟩:∃w,a.alloc (V #[] 102)=w:=⟨_,rfl⟩;rw[z]at d b;have g:=L b;have h:=L c;clear b c;obtain⟨b,R,A,T,W,B,n,u,l,i,r,j,t⟩:=d;obtain⟨-,-,-,C,-,-,-,-,-,-,-⟩:=bX i;have G:=L ((aDx A w B x.items j m).mono (R':=λe w1=>(∃v,e=ac v)/\Keeps F w w1/\aG (Since F w w1) w1 p {x with items:=aY x.items .null} s toks) λe w1 ⟨P,o,Q⟩=>⟨P,kN b l i r t o j.2.1 Q⟩);have c:=L (λw1(d:aG (Since F w w1) w1 p {x with items:=aY x.items .null} s toks)=>oS (Since F w w1) w1 p _ s toks d f.many f.len);have q:=L b;clear b l i r j t;go_enter func114,ntmps114;go_wp2_with fail;refine(G.o).mono ?_;rintro e w1 ⟨⟨v,rfl⟩,b,i⟩;have j:=L b;have r:=L (c.o w1 i);clear b i C;go_wp2_with fail;refine(r.o).mono ?_;rintro e w2 ⟨rfl,b,i⟩;have l:=L b;have t:=L i;clear b i;go_wp2_with fail
 go_end0
 have o:=j.o.B7 l.o;have b:Keeps F a w2:=(g.o.A6 (λ_ d=>d.elim)).B8 o;exact⟨rfl,b,(t.o.F8 j.o.size l.o.size q.o).A6 (λk d=>d.elim E (λd=>aw ⟨bu g.o.size d.1,d.2⟩)) (aF h.o b.size)⟩
theorem aCN(F:Nat->Prop)(w:Z)(p:Nat)(x:Ps)(s:LS)(toks:List Tok)(c:Bool)(o:aG F w p x s toks)(b:pY x 1073741824)(i:x.items.length<=1048576):
 ae K 114 #[af (S ⟨p,0,J⟩),D 104 (Y c)] w λe w'=>e=ac (ar #[])/\Keeps F w w'/\aG (Since F w w') w' p (Ps.C7 {x with items:=aY x.items (.flag c)}) s toks:=by
 have q:∀w:Z,(bm (D 104 (Y c)) 39 102 ai).run K w=.ok (ar #[H #[],Y X]) w:=λ_=>by kernel_rfl
 have r:∀w:Z,(bm (D 104 (Y c)) 39 104 ai).run K w=.ok (ar #[Y c,Y ai]) w:=λ_=>by kernel_rfl
 obtain⟨a,G,t,P,Q,u,j,n,h,f,l,g,m⟩:=o;obtain⟨-,-,-,y,-,-,-,-,-,-,-⟩:=bX f;have z:=L ((aDy t w u x.items c g i).mono (R':=λe w1=>(∃v,e=ac v)/\Keeps F w w1/\aG (Since F w w1) w1 p {x with items:=aY x.items (.flag c)} s toks) λe w1 ⟨A,B,C⟩=>⟨A,kN a h f l m B g.2.1 C⟩);have d:=L (λw1(o:aG (Since F w w1) w1 p {x with items:=aY x.items (.flag c)} s toks)=>oS (Since F w w1) w1 p _ s toks o b.many b.len);have k:=L a;clear a h f l g m;go_enter func114,ntmps114;go_wp2_with fail;refine(z.o).mono ?_;rintro e w1 ⟨⟨v,rfl⟩,a,f⟩;have g:=L a;have l:=L (d.o w1 f);clear a f y;go_wp2_with fail;refine(l.o).mono ?_;rintro e w2 ⟨rfl,a,f⟩;have h:=L a;have m:=L f;clear a f;go_wp2_with fail
 go_end0
 exact⟨rfl,g.o.B7 h.o,m.o.F8 g.o.size h.o.size k.o⟩
def aFJ(a:List UInt8):az:=if a= [110,117,108,108]then D 102 (H #[])else D 104 (Y (decide (a= [116,114,117,101])))
theorem aCO(F:Nat->Prop)(w:Z)(p:Nat)(x:Ps)(s:LS)(toks:List Tok)(a:List UInt8)(h:aG F w p x s toks)(c:pY x 1073741824)(b:x.items.length<=1048576):
 ae K 114 #[af (S ⟨p,0,J⟩),aFJ a] w λe w'=>e=ac (ar #[])/\Keeps F w w'/\aG (Since F w w') w' p (x.G0 (jY a)) s toks:=by
 unfold aFJ jY
 by_cases d:a= [110,117,108,108]
 .rw[if_pos d,if_pos d];exact aCM F w p x s toks h c b
 .rw[if_neg d,if_neg d];exact aCN F w p x s toks (decide (a= [116,114,117,101])) h c b
theorem aEE(w:Z)(a n:Nat)(b:List UInt8)(c:b= [110,117,108,108]\/b= [116,114,117,101]\/b= [102,97,108,115,101]):
 ae K 360 #[H #[I N a,I N n,ah ⟨b.toArray⟩]] w λe w'=>e=ac (aFJ b)/\au w.heap.size w w':=by
 rcases c with rfl|rfl|rfl
 all_goals
  go_enter func360,ntmps360;go_wp2;go_ret;exact⟨rfl,(ak _ _).alloc (aj _) _⟩
theorem aAf:Elem 133 281 16:=⟨underlying133,by
 have h:(K.info? 281).map (λi=>(i.zero,i.size,i.bytes))=S (S .nilIface,1,16):=by kernel_rfl
 obtain⟨i,c,a,d,b⟩:=info_parts h;exact⟨i,_,c,a,d,b,rfl⟩⟩
theorem aG4(F:Nat->Prop)(w:Z)(p:Nat)(x:Ps)(s:LS)(toks:List Tok)(b:Nat)(c:aG F w p x s toks)(m:x.nodes<=65536)(h:x.pile.length<=1048576):
 ae K 112 #[af (S ⟨p,0,J⟩),H #[I N b,I N 1,I O 91]] w λe w'=>cH e/\dH F w p s toks ((x.D0 b).map λp=>{p with pile:=p.pile++ [.list 0],want:=1}) e w':=by
 have l:Keeps (λ_=>False) w (w.alloc (V #[I N b,I N 1,I O 91] 238)):=(bk _ w).A4 _;have n:=c.lt;have d:=c.M8;have A:=c.B6 l (λ_ _=>id);have HV:=L (sZ F _ p x s toks b A m);have B:=L l;have HLT:=L n;have f:=ao w (V #[I N b,I N 1,I O 91] 238);have b0:(w.alloc (V #[I N b,I N 1,I O 91] 238)).cell? ⟨w.heap.size,0,J⟩=S (I N b):=aA f;have b2:(w.alloc (V #[I N b,I N 1,I O 91] 238)).cell? ⟨w.heap.size,2,J⟩=S (I O 91):=aA f;have C:=L d;cases a:x.D0 b with
 | error q=>
  obtain⟨no,a2⟩:=q;rw[a]at HV;clear l c A n f d a m h;go_enter func112,ntmps112;go_wp2_with fail;refine(HV.o).mono ?_;rintro e w2 ⟨-,i,P,j⟩;have HK:=L ((B.o.A6 (G:=F) (λ_ c=>c.elim)).B8 i);have r:=L j;clear i j;have j:=L P;unfold bR at P;subst P;go_wp2_with fail;exact⟨rfl,aw ⟨_,_,rfl⟩,HK.o,rfl,r.o⟩
 | ok y=>
  have j:y.pile=x.pile:=by
   unfold Ps.D0 at a;split at a
   .cases a
   .split at a
    .cases a
    .split at a
     .cases a
     .cases a;rfl
  rw[a]at HV;have HYP:=L j;have HPL:=L h;clear l c A n f d a m j h;go_enter func112,ntmps112;go_wp2_with fail;refine(HV.o).mono ?_;rintro e w2 ⟨h,i,P,Q⟩;subst P;have u:Keeps F w w2:=(B.o.A6 (G:=F) (λ_ c=>c.elim)).B8 i;obtain⟨-,FL,FM,FP,lb,mb,pileV,a,z,v,hL,hM,t⟩:=Q;obtain⟨-,-,-,-,d4,-,-,-,-,-,-⟩:=bX v;have j:Keeps (λ_=>False) w2 ((w2.alloc (V #[I N 0] 274)).alloc (V #[D 272 (af (S ⟨w2.heap.size,0,J⟩))] 281)):=((bk _ w2).A4 _).A4 _;have l:=t.win.1.A0 j (λ_ _=>id);have R:=L l;have HB:=L v;have HNE:=L (t.win.1.ne v (by decide));have n:p<w2.heap.size:=bw v
  have m:((w2.alloc (V #[I N 0] 274)).alloc (V #[D 272 (af (S ⟨w2.heap.size,0,J⟩))] 281)).heap[w2.heap.size]?=S (V #[I N 0] 274 (0,0)):=
   (Below.heap_alloc _ _ _ (by simp)).trans (ao w2 _)
  have HFB:=L m;have T:=L (l.ne m (by decide));have hvl:a.length<=1048576:=by rw[t.len,HYP.o];exact HPL.o
  have W:=L u;have f:=L z;have HHL:=L hL;have HHM:=L hM;have q:=L t;have HKX:=L j;have d:∀k,Since F (w.alloc (V #[I N b,I N 1,I O 91] 238)) w2 k->Since F w w2 k:=λk c=>c.elim E (λc=>aw ⟨bu (by simp) c.1,c.2⟩)
  have r:=L d;obtain⟨ta,tc,htv⟩:=t.win.1.A8;clear h i u z v hL hM t l m j d b0 b2;subst htv
  go_wp2_with (at_builtin;refine cW aAf rfl _ _ rfl rfl R.o ⟨w2.heap.size+1,0,J⟩ 1 (D 272 (af (S ⟨w2.heap.size,0,J⟩))) rfl ?_ rfl ?_ ?_ ?_)
  .exact fN (by simp)
  .omega
  .unfold av;omega
  intro g off cap w' h i d;have j:=(d.block p (by simp;omega) (λe=>HNE.o e.symm)).trans ((HKX.o.block p n id).trans HB.o);have l:=(d.block w2.heap.size (by simp;omega) (λe=>T.o e.symm)).trans HFB.o;obtain⟨-,-,-,-,e4,e5,-,-,-,-,ef⟩:=bX j;have HB3:=L j;have u:=L l;have t:=L h;have HGB:=L i;have HK:=L ((HKX.o.A6 (G:=λk=>(ag ta a.length tc).ownBlock=S k) (λ_ c=>c.elim)).F9 d (λk e=>E e));clear j l h i d d4;go_wp2_with fail
  go_end0
  have j:Keeps (λk=>k=p) w' ((w'.setCell ⟨p,4,J⟩ (ag (S ⟨g,off,J⟩) (a.length+1) cap)).setCell ⟨p,5,J⟩ (I N 1)):=((bk (λk=>k=p) w').A2 (p:=⟨p,4,J⟩) (E rfl) _).A2 (p:=⟨p,5,J⟩) (E rfl) _;have d:Keeps (λk=>k=p\/(ag ta a.length tc).ownBlock=S k) w2 ((w'.setCell ⟨p,4,J⟩ (ag (S ⟨g,off,J⟩) (a.length+1) cap)).setCell ⟨p,5,J⟩ (I N 1)):=(HK.o.A6 (λk c=>aw c)).B8 (j.A6 (λk c=>E c));have l:=q.o.win.2;have h:Keeps F w ((w'.setCell ⟨p,4,J⟩ (ag (S ⟨g,off,J⟩) (a.length+1) cap)).setCell ⟨p,5,J⟩ (I N 1)):=W.o.B7 (d.A6 (λk c=>c.elim (λe=>e▸E C.o) (λe=>r.o k (f.o.pile k (l k e)))));have hbp:=aB (o:=5) (aB (o:=4) HB3.o (ag (S ⟨g,off,J⟩) (a.length+1) cap)) (I N 1);obtain⟨z,hwf⟩:∃z,((w'.setCell ⟨p,4,J⟩ (ag (S ⟨g,off,J⟩) (a.length+1) cap)).setCell ⟨p,5,J⟩ (I N 1))=z:=⟨_,rfl⟩;rw[hwf]at j d h hbp⊢
  have hgp:g≠p:=by
   intro e;rcases HGB.o with c|c
   .exact f.o.self.2.2.2 (e▸l g c)
   .have h4:=c.1
    try rw[World.size_alloc,World.size_alloc]at h4
    omega
  have m:∀(a0:Nat->Prop),¬a0 p->(∀k,a0 k->¬FP k)->∀k,a0 k->¬(k=p\/(ag ta a.length tc).ownBlock=S k):=λa0 A h2 k hk c=>c.elim (λe=>A (e▸hk)) (λe=>h2 k hk (l k e))
  refine⟨E rfl,h,rfl,aF HLT.o h.size,FL,FM,Since FP w2 z,lb,mb,_,a++ [D 272 (af (S ⟨w2.heap.size,0,J⟩))],?_,hbp,HHL.o.B6 d (m FL f.o.self.2.1 (λk c=>f.o.lp k c)),HHM.o.B6 d (m FM f.o.self.2.2.1 (λk c=>f.o.mp k c)),?_⟩
  .have i:=f.o.K5 (w:=w2) (w':=z) n HHL.o.lt HHM.o.2.1
   have v:∀k,Since (Since F (w.alloc (V #[I N b,I N 1,I O 91] 238)) w2) w2 z k->Since F w z k:=
    λk c=>Since.B9 (w1:=w2) (c.elim (λc=>E (r.o k c)) aw) W.o.size d.size
   exact⟨λk c=>v k (i.lex k c),λk c=>v k (i.maker k c),λk c=>v k (i.pile k c),⟨E C.o,i.self.2⟩,i.lm,i.lp,i.mp⟩
  .refine q.o.M7 d (λk v hF=>v.elim (λe=>absurd (e▸hF) f.o.self.2.2.2) id) ?_ ?_ ⟨w2.heap.size,rfl,j.C4 u.o (λe=>by omega),aj _,Nat.lt_of_lt_of_le (bw u.o) j.size,t.o.ne u.o (by decide)⟩
   .have:=t.o.A0 j (λk e hk=>hgp (by cases e;exact hk))
    simpa using this
   .intro k i;cases i;exact HGB.o.imp id (λc=>by show w2.heap.size<=g;first|omega|(rw[World.size_alloc,World.size_alloc]at h4;omega))
end Go.Proofs.YtakkmiomhackiaaGreatDoor
