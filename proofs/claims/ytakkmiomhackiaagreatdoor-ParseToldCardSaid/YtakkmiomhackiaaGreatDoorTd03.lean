/-
  The program, one part of its walk. Conditions: none.
-/
import Derived.Test.YtakkmiomhackiaaGreatDoorTd01
import Derived.Shelf.Spec.BitsCarry
set_option linter.all false
set_option maxRecDepth 100000
set_option maxHeartbeats 16000000
open Go.Proofs.Tryz
open Go renaming Addr->az,Calls->af,Value->ac,World->U,bodyPost_ret->aj,callFunc->bm,cell_of_one->ao,free_of_one->aw,info_parts->ct,lt_of_block->dy,maxLen->ar,results->ak,run_callFunc_extern->cv
open Go.BinOp renaming and->dp
open Go.Ending renaming returned->ah
open Go.IntKind renaming i64->ai,u64->N
open Go.IntWalk renaming wrap64_in->ee
open Go.Lib renaming bitLen->bx,bitLenAux->bz
open Go.Next renaming value->bp
open Go.Obj renaming cells->X
open Go.Proofs.Tryz renaming func278->cj,ntmps278->ck,prog->H,results248->dm,results249->bs,results251->dw,underlying379->bk
open Go.Proofs.YtakkmiomhackiaaGreatDoor.Lim renaming Small->bc,bitlen->W,bitlen_le->cg,limbs->S,limbs_zero->bu,lt_bitlen->di,small_append->du,small_limbs->dj,val->Z,val_append->co
open Go.Proofs.YtakkmiomhackiaaGreatDoor.Row renaming E0->cu
open Go.RowKit renaming Below->ae,intOf->av
open Go.RowKit.Below renaming heap_alloc->cr,refl->G
open Go.Value renaming agg->K,int->J,nilIface->ba,slice->I,tuple->ag
open Go.World renaming cell?_alloc_lt->bw
open Int renaming natCast_zero->cz
open List renaming getD->au,getElem?_eq_getElem->bh,getElem?_eq_none->cw,getElem_mem->dl
open Nat renaming add_zero->dv,eq_zero_or_pos->dh,le_refl->Y,le_trans->dx,mul_add->dt,mul_assoc->dq,pow_succ->bg,zero_le->bj
open Option renaming none->O,some->V
namespace Go.Proofs.YtakkmiomhackiaaGreatDoor
open Go.RowKit
abbrev jX(x:Nat):ac:=J N (x:Int)
def Wds(w:U)(v:ac)(l:List Nat):Prop:=Row 0 30 jX w v l
theorem m5:Elem 379 30 8:=⟨bk,by
 have h:(H.info? 30).map (λi=>(i.zero,i.size,i.bytes))=V (V (J N 0),1,8):=by kernel_rfl
 obtain⟨i,c,a,d,b⟩:=ct h;exact⟨i,_,c,a,d,b,rfl⟩⟩
theorem aDg:aHv 379 30 8 (jX 0):=⟨bk,by
 have h:(H.info? 30).map (λi=>(i.zero,i.size,i.bytes))=V (V (J N 0),1,8):=by kernel_rfl
 obtain⟨i,c,a,d,b⟩:=ct h;exact⟨i,c,a,d,b,rfl⟩⟩
theorem Wds.A5{w w':U}{v:ac}{l:List Nat}(h:Wds w v l)(a:ae w.heap.size w w'):Wds w' v l:=Row.A5 h a
theorem Wds.A4{w:U}{v:ac}{l:List Nat}(h:Wds w v l)(o:Obj):Wds (w.alloc o) v l:=Row.A4 h o
theorem Wds.A9{w:U}{v:ac}{l:List Nat}(h:Wds w v l):Wds w.drew v l:=h
theorem Wds.D6{w:U}{v:ac}{l:List Nat}(h:Wds w v l){b:Nat}{c:Array ac}{T:TypeId}(d:w.heap[b]?=V (X c T (0,0)))(a:T≠30)(o:Nat)(u:ac):Wds (w.setCell ⟨b,o,O⟩ u) v l:=Row.D6 h d a o u
theorem Wds.E0(w:U):Wds w (I O 0 0) []:=cu 0 30 jX w
theorem Wds.E3{w:U}{v:ac}{l:List Nat}(h:Wds w v l):(v=I O 0 0/\l= [])\/
 ∃g cap,v=I (V ⟨g,0,O⟩) l.length cap/\g<w.heap.size/\l.length<=cap/\cap<=ar/\∀i,i<l.length->w.cell? ⟨g,i,O⟩=V (J N (l.getD i 0:Nat)):=by
 rcases Row.E3 h with h|⟨g,cap,c,_,d,e,b,_,a⟩
 .exact .inl h
 .exact .inr ⟨g,cap,c,d,e,b,λi hi=>a i _ (by rw[au,bh hi];rfl)⟩
theorem Wds.I0(w:U)(l:List Nat)(a:l.length<=ar):Wds (w.alloc (X (l.map jX).toArray 30)) (I (V ⟨w.heap.size,0,O⟩) l.length l.length) l:=Row.I0 0 30 jX w l (bj _) a
theorem xP(x y c:Nat)(d:x<18446744073709551616)(a:y<18446744073709551616)(b:c<=1):∃s k:Nat,s+18446744073709551616*k=x+y+c/\s<18446744073709551616/\k<=1/\
 ∀w,(bm 250 #[J N x,J N y,J N c]).run H w=.ok (bp (ag #[J N (s:Int),J N (k:Int)])) w:=by
 refine⟨(x+y+c)%18446744073709551616,(x+y+c)/18446744073709551616,by omega,by omega,by omega,λw=>?_⟩;rw[cv func250 (by kernel_rfl) (by kernel_rfl) (by kernel_rfl) (e:=add64Entry) (by kernel_rfl),run_add64 x y c (by omega) (by omega) (by omega) (by omega)];simp only[Result.andThen];congr 5<;>omega
theorem mI(x y:Nat)(e:x<18446744073709551616)(a:y<18446744073709551616):∃s k:Nat,s+18446744073709551616*k=x+y/\s<18446744073709551616/\k<=1/\
 ∀w,(bm 250 #[J N x,J N y,J N 0]).run H w=.ok (bp (ag #[J N (s:Int),J N (k:Int)])) w:=by
 obtain⟨s,k,f,b,d,c⟩:=xP x y 0 e a (by omega);exact⟨s,k,by omega,b,d,λw=>c w⟩
theorem xQ(x y b:Nat)(d:x<18446744073709551616)(c:y<18446744073709551616)(a:b<=1):∃s k:Nat,s+y+b=x+18446744073709551616*k/\s<18446744073709551616/\k<=1/\
 ∀w,(bm 296 #[J N x,J N y,J N b]).run H w=.ok (bp (ag #[J N (s:Int),J N (k:Int)])) w:=by
 refine⟨(x+18446744073709551616-y-b)%18446744073709551616,if x<y+b then 1 else 0,by split<;>omega,by omega,by split<;>omega,λw=>?_⟩;rw[cv func296 (by kernel_rfl) (by kernel_rfl) (by kernel_rfl) (e:=sub64Entry) (by kernel_rfl),run_sub64 x y b a];rfl
theorem oW(x y:Nat)(d:x<18446744073709551616)(b:y<18446744073709551616)(w:U):af H 94 #[J N x,J N y] w λe w'=>
 ∃h l:Nat,e=ah (ag #[J N (h:Int),J N (l:Int)])/\w=w'/\l+18446744073709551616*h=x*y/\l<18446744073709551616/\h<18446744073709551615:=by
 refine(Tryz.O5 x y d b w).mono λe w' ⟨c,a⟩=>⟨x*y/18446744073709551616,x*y%18446744073709551616,c,a.symm,by omega,by omega,?_⟩
 have f:x*y<=18446744073709551615*18446744073709551615:=Nat.mul_le_mul (by omega) (by omega);omega
def aAq(w:U)(n:Nat)(e:Ending)(w':U):Prop:=∃a k c,e=ah (K #[I a k c])/\Wds w' (I a k c) (S n)/\ae w.heap.size w w'
def oH(w:U)(n:Nat)(b:ac)(e:Ending)(w':U):Prop:=∃a k c,e=ah (ag #[K #[I a k c],b])/\Wds w' (I a k c) (S n)/\ae w.heap.size w w'
theorem yU(B:Nat)(v:ac)(l:List Nat)(w:U)(C:bc l)(h:Row B 30 jX w v l):af H 249 #[v] w λe w'=>
 ∃a k c,e=ah (K #[I a k c])/\Row B 30 jX w' (I a k c) (S (Z l))/\ae w.heap.size w w':=by
 rcases Wds.E3 (h.I3 (bj _))with⟨rfl,rfl⟩|⟨g,cap,rfl,y,F,E,b⟩
 .go_enter func249,ntmps249;go_wp2;refine wp_loop_rounds 1 ?_;rw[rounds_succ];go_wp2;refine aj (v:=K #[I O 0 0]) (by simp[ak,bs,go_sem]) rfl ⟨_,_,_,rfl,?_,?_⟩
  .simp only[Z,bu];exact cu _ _ _ _
  .exact(G _ _).alloc (Y _) _
 .have r:l.length<=9223372036854775807:=by unfold ar at E;omega
  go_enter func249,ntmps249;go_wp2
  go_loop [3] (λn=>∃k:Nat,k<=l.length/\n=J ai k/\∀i,k<=i->l.getD i 0=0) (λn=>(av n).toNat)
  case atStart=>exact⟨l.length,Y _,rfl,λi hi=>by simp[au,cw hi]⟩
  case round=>
   obtain⟨k,o,rfl,s⟩:=hrel;have t:=L s;clear s
   have d:∀m,m<=l.length->m=k->(k=0\/l.getD (k-1) 0≠0)->Row B 30 jX w (I (V ⟨g,0,O⟩) m cap) (S (Z l)):=by
    intro m z e A;subst e;rw[Lim.limbs_take C o t.o A];exact h.B0 o
   have j:=L d;clear d
   by_cases p:k=0
   .subst p;simp only[cz]at*;go_wp2;refine aj (v:=K #[I (V ⟨g,0,O⟩) 0 cap]) (by simp[ak,bs,go_sem]) rfl ⟨_,_,_,rfl,?_,?_⟩
    .exact(j.o 0 (by omega) rfl (by simp)).A5 ((G _ _).alloc (Y _) _)
    .exact(G _ _).alloc (Y _) _
   .have u:(w.alloc (X #[I O 0 0] 381)).cell? ⟨g,k-1,O⟩=V (J N (l.getD (k-1) 0:Nat)):=by
     rw[bw _ _ ⟨g,k-1,O⟩ (by simpa using y)];exact b _ (by omega)
    generalize D:l.getD (k-1) 0=x at*
    by_cases f:x=0
    .subst f;go_wp2
     refine ⟨⟨k - 1, by omega, by have : ((k - 1 : Nat) : Int) = (k : Int) - 1 := by omega
                                  rw[this],λi hi=>?_⟩,by simp[av];omega⟩
     by_cases q:i=k-1
     .subst q;exact D
     .exact t.o i (by omega)
    .go_wp2;refine aj (v:=K #[I (V ⟨g,0,O⟩) k cap]) (by simp[ak,bs,go_sem]) rfl ⟨_,_,_,rfl,?_,?_⟩
     .exact(j.o k o rfl (.inr f)).A5 ((G _ _).alloc (Y _) _)
     .exact(G _ _).alloc (Y _) _
theorem jK(v:ac)(l:List Nat)(w:U)(a:bc l)(h:Wds w v l):af H 249 #[v] w λe w'=>
 aAq w (Z l) e w':=yU 0 v l w a h
theorem aAr(x:Nat)(w:U)(p:x<18446744073709551616):af H 231 #[J N x] w λe w'=>aAq w x e w':=by
 have j:Wds ((w.alloc (X #[I O 0 0] 381)).alloc (X #[J N x] 30)) (I (V ⟨w.heap.size+1,0,O⟩) 1 1) [x]:=by
  have:=Wds.I0 (w.alloc (X #[I O 0 0] 381)) [x] (by simp[ar])
  simpa using this
 have h:Z [x]=x:=by simp[Z]
 have o:=L h;clear h;go_enter func231,ntmps231;go_wp2_with fail;refine(jK _ [x] _ (λy l=>by simp at l;omega) j).mono ?_;rintro e w1 ⟨a,k,c,rfl,f,i⟩;rw[o.o]at f;obtain⟨b,_,d,-⟩:=after2 i;have g:=ao b;have n:=aw b;have m:=L f;clear f;go_wp2;exact aj (v:=K #[I a k c]) (by simp[ak,results231,go_sem,g]) rfl ⟨a,k,c,rfl,m.o.D6 b (by decide) _ _,d.setCell (Y _) _⟩
theorem bitLen_eq(x:Nat)(a:x<18446744073709551616):bx x=W x:=by
 have b:∀f x,x<2^f->bz f x=W x:=by
  intro f
  induction f with
  | zero => intro x a; have : x = 0 := by simpa using a
            subst this;simp[bz,W]
  | succ f i=>
   intro x a;unfold bz
   by_cases h:x=0
   .subst h;simp[W]
   .rw[if_neg h,i (x/2) (by rw[bg]at a;omega)];refine Nat.le_antisymm ?_ ?_
    .have:W (x/2)<W x:=by
      have g : 0 < W x := by rcases dh (W x) with c | c
                             .have:=cg.1 (Nat.le_of_eq c);simp at this;omega
                             .exact c
      have:W (x/2)<=W x-1:=cg.2 (by
       have e:=di (n:=x);obtain⟨m,d⟩:∃m,W x=m+1:=⟨_,(Nat.succ_pred_eq_of_pos g).symm⟩;rw[d,bg]at e;rw[d,Nat.add_sub_cancel];omega)
      omega
     omega
    .refine cg.2 ?_;have e:=di (n:=x/2);rw[Nat.add_comm,bg];omega
 exact b 64 x (by simpa using a)
theorem uH(a:Option az)(k c:Nat)(n:Nat)(w:U)(h:Wds w (I a k c) (S n))(B:(S n).length<=4294967296):af H 252 #[K #[I a k c]] w λe w'=>
 e=ah (J ai (W n))/\ae w.heap.size w w':=by
 by_cases r:n=0
 .subst r;rw[bu]at h;rcases h.E3 with⟨f,_⟩|⟨g,cap,f,_⟩
  all_goals
   injection f with m l p
   subst m l p;go_enter func252,ntmps252;go_wp2;go_ret;exact⟨by simp[W],(G _ _).alloc (Y _) _⟩
 .obtain⟨i,d⟩:=Lim.bitlen_limbs r;rcases h.E3 with⟨_,f⟩|⟨g,cap,f,u,D,C,b⟩
  .rw[f]at d;simp at d
  .injection f with m l p
   subst m l p
   have j:(S n).getD ((S n).length-1) 0<18446744073709551616:=by
    rw[au,bh (by omega)];exact dj n _ (dl _)
   have A:(w.alloc (X #[I (V ⟨g,0,O⟩) (S n).length c] 381)).cell? ⟨g,(S n).length-1,O⟩=V (J N ((S n).getD ((S n).length-1) 0:Nat)):=by
    rw[bw _ _ ⟨g,_,O⟩ (by simpa using u)];exact b _ (by omega)
   clear b;have v:=L i;clear i;generalize y:(S n).length=E at*;clear y h;generalize t:(S n).getD (E-1) 0=x at*;clear t;have q:(0:Int)<=(x:Int):=by omega
   have o:(x:Int)<=18446744073709551615:=by omega
   go_enter func252,ntmps252;go_wp2
   go_quiet ((go_at_call 273;exact Calls.quiet_of_same (Tryz.O4 _ _ q o)))
   go_wp2;go_ret;refine⟨?_,below_drewN ((G _ _).alloc (Y _) _) _⟩;have s:bx x<=64:=Lib.bitLen_le x 64 (Y _) (by simpa using j)
   have e:wrap64 (64*((E:Int)-1)+(bx x:Int))=(W n:Int):=by
    rw[ee _ ⟨by omega,by omega⟩,v.o,<-bitLen_eq x j];omega
   exact congrArg (λz=>ah (J ai z)) e
def aHw(n:Nat):Nat:=if 8192<W n then 0 else n
def aDh(n:Nat):ac:=if 8192<W n then .iface 29 (J ai 11)else ba
theorem uP{n:Nat}(h:W n<=8192):aHw n=n:=if_neg (by omega)
theorem aBo{n:Nat}(h:W n<=8192):aDh n=ba:=if_neg (by omega)
theorem m6(a:Option az)(k c:Nat)(n:Nat)(w:U)(h:Wds w (I a k c) (S n))(m:(S n).length<=4294967296):af H 248 #[K #[I a k c]] w λe w'=>
 oH w (aHw n) (aDh n) e w':=by
 unfold aHw aDh;have j:Wds ((w.alloc (X #[I a k c] 381)).alloc (X #[I O 0 0] 381)) (I a k c) (S n):=h.A5 (((G _ _).alloc (Y _) _).alloc (by simp) _)
 by_cases g:8192<W n
 all_goals
  simp only[g,if_true,if_false];go_enter func248,ntmps248;go_wp2_with fail;refine(uH a k c n _ j m).mono ?_;rintro e w1 ⟨rfl,l⟩;obtain⟨i,d,b,-⟩:=after2 l;have q:=ao i;have f:=ao d;have o:=aw d;have p:(8192:Int)<(W n:Int)\/¬(8192:Int)<(W n:Int):=by omega
  go_wp2
 .refine aj (v:=ag #[K #[I O 0 0],.iface 29 (J ai 11)]) (by simp[ak,dm,go_sem,f]) rfl ⟨O,0,0,rfl,?_,b.setCell (by simp) _⟩;rw[bu];exact Wds.E0 _
 .refine aj (v:=ag #[K #[I a k c],ba]) (by simp[ak,dm,go_sem,f]) rfl ⟨a,k,c,rfl,?_,b.setCell (by simp) _⟩;exact(h.A5 b).D6 d (by decide) _ _
theorem uQ(a:Option az)(k c:Nat)(l:List Nat)(i:Int)(w:U)(h:Wds w (I a k c) l)(hi:0<=i)(s:i<=4294967296):af H 278 #[K #[I a k c],J ai i] w λe w'=>
 e=ah (J N (l.getD i.toNat 0:Nat))/\ae w.heap.size w w':=by
 obtain⟨i,rfl⟩:=Int.eq_ofNat_of_zero_le hi;rw[Int.toNat_natCast];rcases h.E3 with⟨o,rfl⟩|⟨g,cap,o,p,t,q,b⟩
 .injection o with m j n
  subst m j n;go_enter cj,ck;go_wp2;go_ret;exact⟨by simp,(G _ _).alloc (Y _) _⟩
 .injection o with m j n
  subst m j n
  by_cases f:i<l.length
  .have r:(w.alloc (X #[I (V ⟨g,0,O⟩) l.length c] 381)).cell? ⟨g,i,O⟩=V (J N (l.getD i 0:Nat)):=by
    rw[bw _ _ ⟨g,_,O⟩ (by simpa using p)];exact b _ f
   clear b h;generalize d:l.getD i 0=x at*;clear d;go_enter cj,ck;go_wp2;go_ret;exact⟨rfl,(G _ _).alloc (Y _) _⟩
  .have d:l.getD i 0=0:=by simp[au,cw (by omega:l.length<=i)]
   rw[d];clear b h d;go_enter cj,ck;go_wp2;go_ret;exact⟨rfl,(G _ _).alloc (Y _) _⟩
theorem qG(a:Option az)(c n:Nat)(i:Int)(w:U)(h:Wds w (I a (S n).length c) (S n))(hi:0<=i)(r:i<=4294967296):af H 257 #[K #[I a (S n).length c],J ai i] w λe w'=>
 e=ah (.bool (n.testBit i.toNat))/\ae w.heap.size w w':=by
 have k:0<=i/64:=by omega
 have f:i/64<=4294967296:=by omega
 go_enter func257,ntmps257;go_wp2_with fail;refine(uQ a _ c (S n) (i/64) _ (h.A5 ((G _ _).alloc (Y _) _)) k f).mono ?_;rintro e w1 ⟨rfl,p⟩;obtain⟨_,j,_⟩:=after1 p;rw[Lim.limbs_getD]
 have d:((n/18446744073709551616^(i/64).toNat%18446744073709551616/2^(i%64).toNat)%2==1)=n.testBit i.toNat:=by
  have e:∀y m:Nat,(y/2^m%2==1)=y.testBit m:=λy m=>by rw[Nat.testBit_eq_decide_div_mod_eq];rfl
  rw[e,show(18446744073709551616:Nat)=2^64 by decide,<-Nat.pow_mul,Nat.testBit_mod_two_pow,Nat.testBit_div_two_pow,decide_eq_true (by omega),Bool.true_and];congr 1;omega
 have o:n/18446744073709551616^(i/64).toNat%18446744073709551616<18446744073709551616:=Nat.mod_lt _ (by decide);have g:=L d;clear d h;generalize n/18446744073709551616^(i/64).toNat%18446744073709551616=x at*;go_wp2;go_ret;rw[<-g.o];refine⟨congrArg (λb=>ah (.bool b)) (a₁:=(bits dp N ((x:Int)/2^(i%64).toNat) 1==1)) ?_,j⟩;have l:x/2^(i%64).toNat<=x:=Nat.div_le_self _ _
 have e:bits dp N ((x:Int)/2^(i%64).toNat) 1=((x/2^(i%64).toNat%2:Nat):Int):=by
  have q:(x:Int)/2^(i%64).toNat=((x/2^(i%64).toNat:Nat):Int):=by simp
  rw[q];generalize x/2^(i%64).toNat=y at l⊢;rw[and_one_u64 _ (by omega) (by omega)];omega
 rw[e,Bool.eq_iff_iff];simp only[beq_iff_eq];generalize x/2^(i%64).toNat=y;omega
theorem gR{l:List Nat}{k:Nat}(a:k<l.length):Z (l.take (k+1))=Z (l.take k)+18446744073709551616^k*l.getD k 0:=by
 rw[List.take_succ_eq_append_getElem a,co,List.length_take,Nat.min_eq_left (by omega)];simp[Z,au,bh a]
theorem aDi{v P b x d f hi s c t a:Nat}(h:v+P*b=t*d+a)(i:f+18446744073709551616*hi=x*d)(g:s+18446744073709551616*c=f+b):
 v+P*s+P*18446744073709551616*(hi+c)=(t+P*x)*d+a:=by
 have e:s+18446744073709551616*(hi+c)=b+x*d:=by omega
 rw[dq P,Nat.add_assoc,<-dt,e,dt,Nat.add_mul,dq];omega
theorem yV(v:ac)(l:List Nat)(d j:Nat)(w:U)(a0:Wds w v l)(hs:bc l)(hd:d<18446744073709551616)(T:j<18446744073709551616)(hl:l.length<=4294967296):
 af H 247 #[v,J N d,J N j] w λe w'=>∃a c r,e=ah (I a r.length c)/\Wds w' (I a r.length c) r/\bc r/\Z r=Z l*d+j/\r.length=l.length+1/\ae w.heap.size w w':=by
 obtain⟨va,vc,rfl⟩:=Row.A8 a0;obtain⟨i0,z0,hi0,hz0,E,F,-⟩:=m5.2;have hby:i0.bytes*(l.length+1)<=281474976710656:=by rw[F];omega
 go_enter func247,ntmps247
 go_wp2_with (at_make;refine wpList_make_own _ rfl _ _ 379 rfl w.heap.size 30 i0 z0 1 bk hi0 hz0 E _ _ _ (l.length+1) rfl rfl ?c1 hby ?c2 (Y _) ?_)
 case c1=>omega
 case c2=>unfold ar;omega
 intro w1 h f;go_wp2_with fail
 go_loopw [7,19,2,9,10,11,12] (λo i m _ _ _ _ wr=>∃(k t:Nat)(r:List Nat),k<=l.length/\i=J ai k/\m=J N t/\t<18446744073709551616/\Row w.heap.size 30 jX wr o r/\ae w.heap.size w wr/\r.length=k/\bc r/\
  Z r+18446744073709551616^k*t=Z (l.take k)*d+j) (λ_ i _ _ _ _ _ _=>l.length-(av i).toNat)
 case atStart=>exact⟨0,j,[],bj _,rfl,rfl,T,h,(G _ _).grown f (Y _) (λk e=>by cases e),rfl,(λx hx=>by cases hx),by simp[Z]⟩
 case round=>
  obtain⟨k,t,r,R,rfl,rfl,P,n,p,u,Q,q⟩:=hrel;have HV:=L q;clear q;have A:=L u;clear u;clear h f
  by_cases u:k<l.length
  .rcases Wds.E3 a0 with⟨_,hn⟩|⟨g,cap,he,hg,_,_,f⟩
   .subst hn;simp at u
   .injection he with h1 h h3
    subst h1 h3;have hx:l.getD k 0<18446744073709551616:=hs _ (by rw[au,bh u];exact dl _);have hcl:wr.cell? ⟨g,k,O⟩=V (J N (l.getD k 0:Nat)):=(p.cell (by simpa using hg)).trans (f k u);clear f;have f:=gR u;generalize q:l.getD k 0=x at*;have HT:=L f;clear f q h;go_wp2_with fail;refine(oW x d hx hd _).mono ?_;rintro e w' ⟨hi,lo,rfl,rfl,f,z,hhi⟩;obtain⟨s,cy,h,hs2,hcy,B⟩:=mI lo t z P;have HM:=L f;have HA:=L h;clear f h;have q:ae w.heap.size w (wr.alloc (X #[J N s] 30)):=p.alloc p.size _
    go_wp2_with (at_builtin;refine cQ m5 rfl _ _ rfl rfl (n.A4 _) ⟨wr.heap.size,0,O⟩ 1 s rfl ?a1 rfl ?a2 ?a3 ?a4 ?_)
    case a1=>simp
    case a2=>have:=A.o;omega
    case a3=>have:=A.o;unfold ar;omega
    case a4=>exact q.size
    intro b cap w2 h f;have C:ae w.heap.size w w2:=q.grown f q.size (λk R=>(n.lt k R).1);have D:=L h;clear h f n;go_wp2
    go_roundw
    case rel=>
     refine⟨k+1,hi+cy,r++ [s],by omega,by go_num,by go_num,by omega,D.o,C,by simp[A.o],du.2 ⟨Q,λy hy=>by simp at hy;omega⟩,?_⟩;rw[HT.o,co,A.o,bg];simp only[Z,Nat.mul_zero,dv];exact aDi HV.o HM.o HA.o
    case measure=>simp[av];omega
  .have z:k=l.length:=by omega
   have B:Z (r++ [t])=Z l*d+j:=by
    have:=HV.o;rw[z,List.take_length]at this;rw[co,A.o,z]
    simpa[Z]using this
   have HF:=L B;have HK:=L z;clear B z;have q:ae w.heap.size w (wr.alloc (X #[J N t] 30)):=p.alloc p.size _
   go_wp2_with (at_builtin;refine cQ m5 rfl _ _ rfl rfl (n.A4 _) ⟨wr.heap.size,0,O⟩ 1 t rfl ?b1 rfl ?b2 ?b3 ?b4 ?_)
   case b1=>simp
   case b2=>have:=A.o;omega
   case b3=>have:=A.o;unfold ar;omega
   case b4=>exact q.size
   intro b cap w2 h f;have C:ae w.heap.size w w2:=q.grown f q.size (λk R=>(n.lt k R).1);have z:(r++ [t]).length=l.length+1:=by simp[A.o,HK.o]
   have D:=L h;have B:=L z;clear h f n z;go_wp2;go_ret;have e:r.length+1=(r++ [t]).length:=by simp
   refine⟨V ⟨b,0,O⟩,cap,r++ [t],?_,?_,du.2 ⟨Q,λy hy=>by simp at hy;omega⟩,HF.o,B.o,C⟩
   .rw[<-e];rfl
   .rw[<-e];exact D.o.I3 (bj _)
theorem aDj(a:Option az)(k c n d:Nat)(w:U)(Q:Wds w (I a k c) (S n))(z:d<18446744073709551616)(R:(S n).length<=4294967295):
 af H 272 #[K #[I a k c],J N d] w λe w'=>
  oH w (aHw (n*d)) (aDh (n*d)) e w':=by
 have s:Wds ((w.alloc (X #[I a k c] 381)).alloc (X #[I O 0 0] 381)) (I a k c) (S n):=Q.A5 (((G _ _).alloc (Y _) _).alloc (by simp) _);go_enter func272,ntmps272;go_wp2_with fail;refine(yV _ (S n) d 0 _ s (dj n) z (by decide) (by omega)).mono ?_;rintro e w1 ⟨a1,c1,r,rfl,t,g,b,f,A⟩;obtain⟨B,j,l,C⟩:=after2 A;rw[Lim.val_limbs,dv]at b;have u:=L b;have D:=L f;clear b f;go_wp2_with fail;refine(jK _ r _ g t).mono ?_;rintro e w2 ⟨a2,E,c2,rfl,m,h⟩;rw[u.o]at m
 have b:(S (n*d)).length<=4294967296:=by
  have f:=Lim.val_lt g;rw[u.o]at f;have:=Lim.limbs_length_le f;have:=D.o;omega
 go_wp2_with fail;refine(m6 a2 E c2 (n*d) _ m b).mono ?_;rintro e T ⟨a3,x,y,rfl,f,i⟩;have o:=keep (keep j h) i;have p:=ao o;have F:=aw o;have q:=chain (chain l h) i;have P:=L f;clear f m t s;go_wp2;exact aj (v:=ag #[K #[I a3 x y],aDh (n*d)]) (by simp[ak,results272,go_sem,p]) rfl ⟨a3,x,y,rfl,P.o.D6 o (by decide) _ _,q.setCell (by simp) _⟩
theorem aFR(b n:Nat)(w:U)(hb1:2<=b)(s:b<18446744073709551616)(hn:n<=8192)(d:W (b^n)<=8192):
 af H 251 #[J N b,J ai n] w λe w'=>oH w (b^n) ba e w':=by
 have f:=aAr 1;have m:=L f;clear f;rcases dh n with rfl|Q
 .simp only[cz];go_enter func251,ntmps251;go_wp2_with fail;refine(m.o _ (by decide)).mono ?_;rintro e w1 ⟨a,k,c,rfl,f,t⟩;obtain⟨g,h,-⟩:=after1 t;have l:=ao g;have o:=aw g;have u:=L f;clear f;go_wp2;exact aj (v:=ag #[K #[I a k c],ba]) (by simp[ak,dw,go_sem,l]) rfl ⟨a,k,c,rfl,u.o.D6 g (by decide) _ _,h.setCell (by simp) _⟩
 .have hn0:((n:Int)==0)=false:=by simp;omega
  have R:¬(b:Int)<2:=by omega
  go_enter func251,ntmps251;go_wp2_with fail;refine(m.o _ (by decide)).mono ?_;rintro e w1 ⟨a,k,c,rfl,f,t⟩;obtain⟨g,h,hsz⟩:=after1 t;have u:=L f;clear f;have p:w.heap.size≠w1.heap.size:=by omega
  have l:(w1.alloc (X #[I a k c] 381)).heap[w1.heap.size]?=V (X #[I a k c] 381 (0,0)):=heap_alloc_new w1 _;have o:(w1.alloc (X #[I a k c] 381)).heap[w.heap.size]?=V (X #[I O 0 0] 381 (0,0)):=(cr w1 _ _ (by omega)).trans g;have f:∀j,j<=n->W (b^j)<=8192:=λj T=>dx (Lim.bitlen_mono (Nat.pow_le_pow_right (by omega) T)) d
  have x:=L f;have H6:=L l;have H4:=L o;have HP:=L p;clear f d l o g p;go_wp2_with fail
  go_loopw [30,7,8] (λi _ _ wr=>∃(j:Nat)(a:Option az)(k c:Nat),j<=n/\i=J ai j/\wr.heap[w1.heap.size]?=V (X #[I a k c] 381 (0,0))/\wr.heap[w.heap.size]?=V (X #[I O 0 0] 381 (0,0))/\
   Wds wr (I a k c) (S (b^j))/\ae w.heap.size w wr) (λi _ _ _=>n-(av i).toNat)
  case atStart=>exact⟨0,a,k,c,by omega,rfl,H6.o,H4.o,u.o.A5 ((G _ _).alloc (Y _) _),h.alloc (by omega) _⟩
  case round=>
   obtain⟨j,y,z,A,T,rfl,B,o,g,d⟩:=hrel;have C:=ao B;have D:=ao o;have hf4:=aw o
   by_cases hlt:j<n
   .go_wp2_with fail;refine(aDj y z A (b^j) b _ g s (dx (Lim.short (k:=128) (x.o j (by omega))) (by decide))).mono ?_;rintro e w2 ⟨a2,k2,c2,rfl,l,f⟩;have E:b^j*b=b^(j+1):=(bg b j).symm;rw[E,uP (x.o (j+1) (by omega))]at l;rw[E,aBo (x.o (j+1) (by omega))];have p:=keep B f;have F:=keep o f;have gb:=chain d f;have P:=L l;have C:=ao p;have hf6:=aw p;have q:w1.heap.size<w2.heap.size:=dy p;have r:w.heap.size<w2.heap.size:=dy F;clear l E g d;have l:=L p;have E:=L F;clear p F B o;go_wp2_with fail
    go_roundw
    case rel=>
     exact⟨j+1,a2,k2,c2,by omega,by go_num,(cr _ _ _ (by simpa using q)).trans (aB l.o _),(cr _ _ _ (by simpa using r)).trans ((aE _ HP.o).trans E.o),
      (P.o.D6 l.o (by decide) _ _).A4 _,(gb.setCell (by simp;omega) _).alloc (by simp;omega) _⟩
    case measure=>simp[av];omega
   .have e:j=n:=by omega
    have l:=L e;have f:=L g;clear e g;go_wp2_with fail;rw[l.o]at f;exact aj (v:=ag #[K #[I y z A],ba]) (by simp[ak,dw,go_sem,D]) rfl ⟨y,z,A,rfl,f.o.D6 o (by decide) _ _,d.setCell (by simp) _⟩
end Go.Proofs.YtakkmiomhackiaaGreatDoor
