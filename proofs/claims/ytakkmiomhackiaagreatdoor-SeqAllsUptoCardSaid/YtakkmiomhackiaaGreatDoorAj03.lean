/-
  The program, one part of its walk. Conditions: none.
-/
import Derived.Test.YtakkmiomhackiaaGreatDoorAj01
import Derived.Shelf.Spec.BitsCarry
import Derived.Deep.RegionHeld3
import Derived.Deep.RegionWith
set_option linter.all false
set_option maxRecDepth 100000
set_option maxHeartbeats 16000000
open Go.Proofs.Tryz
open Bool renaming eq_iff_iff->fa,false->cr,or_eq_true->jd,true->fj
open Go renaming Addr->bg,Calls->af,Ending->ei,Value->ao,World->G,bits->cj,bits_or_u64_nat->fg,callFunc->gj,cell_of_one->Q,free_of_one->bp,info_parts->il,lt_of_block->dm,maxLen->aw,results->ak,run_callFunc_extern->im,wpList_make_own->iw
open Go.IntWalk renaming wrap64_in->jq
open Go.Proofs.Tryz renaming func278->gr,ntmps278->gu,prog->ae,results248->iu,results249->gl,results251->ix,results253->jc,results256->jp,underlying379->fk
open Go.Proofs.YtakkmiomhackiaaGreatDoor.Row renaming A7->ge,A8->bz,E0->gh,nil->fm
open Int renaming toNat->jo,toNat_natCast->gq
open List renaming getD->bk,getElem?_set_ne->jl,replicate->di
open Nat renaming add_eq_zero_iff->je,div_le_self->fv,div_one->ii,mod_mul->ji,mod_one->jj,mul_add_div->jn,mul_add_mod->jm,mul_eq_zero->jf,mul_le_mul->io,mul_left_comm->dw,mul_lt_mul_of_pos_right->jb,mul_mod_mul_left->gy,mul_zero->ek,pos_of_ne_zero->ij,testBit_eq_decide_div_mod_eq->ew,two_pow_add_eq_or_of_lt->ga
open Option renaming none->W,some->Z
namespace Go.Proofs.YtakkmiomhackiaaGreatDoor
open Go.RowKit
open BinOp renaming and->fu,or->dx
open Ending renaming returned->ai
open IntKind renaming i64->au,u64->J,wrap->jr,wrap_u64->em
open Lib renaming bitLen->gn,bitLenAux->go
open Next renaming value->gk
open Obj renaming cells->U
open Lim renaming Small->ar,bitlen->Y,bitlen_gt->ik,bitlen_le->cw,bitlen_limbs->gp,limbs->S,limbs_getD->eu,limbs_length_le->gw,limbs_zero->ej,lt_bitlen->du,lt_of_limbs_length->ee,short->fe,small_append->cz,small_limbs->dv,val->X,val_append->co,val_limbs->fd,val_lt->gv,wpow->dt
open RowKit renaming Below->V,intOf->ah
open Value renaming agg->K,bool->cg,int->O,nilIface->bw,slice->I,tuple->ag
variable {w:G}{v:ao}{l:List Nat}{N P R a b c d hi j k m n q r s t x y:Nat}
abbrev kC(x:Nat):ao:=O J x
def Wds(w:G)(v:ao)(l:List Nat):Prop:=Row 0 30 kC w v l
def nP:Elem 379 30 8:=⟨fk,by
 have h:(ae.info? 30).map (λi=>(i.zero,i.size,i.bytes))=Z (Z (O J 0),1,8):=by kernel_rfl
 obtain⟨i,c,a,d,b⟩:=il h;exact⟨i,_,c,a,d,b,rfl⟩⟩
def aEx:aIS 379 30 8 (kC 0):=⟨fk,by
 have h:(ae.info? 30).map (λi=>(i.zero,i.size,i.bytes))=Z (Z (O J 0),1,8):=by kernel_rfl
 obtain⟨i,c,a,d,b⟩:=il h;exact⟨i,c,a,d,b,rfl⟩⟩
def Wds.A7{w':G}(h:Wds w v l)(a:V w w w'):Wds w' v l:=ge h a
def Wds.A5(h:Wds w v l)(o:Obj):Wds (w.alloc o) v l:=Row.A5 h o
def Wds.B0(h:Wds w v l):Wds w.drew v l:=h
def Wds.E0(h:Wds w v l){b:Nat}{c:Array ao}{T:TypeId}(d:w.heap[b]?=Z (U c T (0,0)))(a:T≠30)(o:Nat)(u:ao):Wds (w.setCell ⟨b,o,W⟩ u) v l:=gh h d a o u
def Wds.nil(w:G):Wds w (I W 0 0) []:=fm 0 30 kC w
def Wds.E3(h:Wds w v l):(v=I W 0 0/\l= [])\/
 ∃g cap,v=I (Z ⟨g,0,W⟩) l.length cap/\g<w.heap.size/\l.length<=cap/\cap<=aw/\∀i,i<l.length->w.cell? ⟨g,i,W⟩=Z (O J (l.getD i 0:Nat)):=by
 rcases Row.E3 h with h|⟨g,cap,c,_,d,e,b,_,a⟩
 .exact .inl h
 .exact .inr ⟨g,cap,c,d,e,b,λi hi=>a i _ (by rw[bk,bf hi];rfl)⟩
def Wds.E9(w:G)(l:List Nat)(a:l.length<=aw):Wds (w.alloc (U (l.map kC).toArray 30)) (I w l.length l.length) l:=Row.E9 0 30 kC w l (dr _) a
def zY(x y c:Nat)(d:x<18446744073709551616)(a:y<18446744073709551616)(b:c<=1):∃s k:Nat,s+18446744073709551616*k=x+y+c/\s<18446744073709551616/\k<=1/\
 ∀w,(gj 250 #[O J x,O J y,O J c]).run ae w=.ok (gk (ag #[O J s,O J k])) w:=by
 refine⟨(x+y+c)%18446744073709551616,(x+y+c)/18446744073709551616,by omega,by omega,by omega,λw=>?_⟩;rw[im func250 (by kernel_rfl) (by kernel_rfl) (by kernel_rfl) (e:=add64Entry) (by kernel_rfl),run_add64 x y c (by omega) (by omega) (by omega) (by omega)];simp only[Result.andThen];congr 5<;>omega
def mR(x y:Nat)(e:x<18446744073709551616)(a:y<18446744073709551616):∃s k:Nat,s+18446744073709551616*k=x+y/\s<18446744073709551616/\k<=1/\
 ∀w,(gj 250 #[O J x,O J y,O J 0]).run ae w=.ok (gk (ag #[O J s,O J k])) w:=by
 obtain⟨s,k,f,b,d,c⟩:=zY x y 0 e a (by omega);exact⟨s,k,by omega,b,d,λw=>c w⟩
def zZ(x y b:Nat)(d:x<18446744073709551616)(c:y<18446744073709551616)(a:b<=1):∃s k:Nat,s+y+b=x+18446744073709551616*k/\s<18446744073709551616/\k<=1/\
 ∀w,(gj 296 #[O J x,O J y,O J b]).run ae w=.ok (gk (ag #[O J s,O J k])) w:=by
 refine⟨(x+18446744073709551616-y-b)%18446744073709551616,if x<y+b then 1 else 0,by split<;>omega,by omega,by split<;>omega,λw=>?_⟩;rw[im func296 (by kernel_rfl) (by kernel_rfl) (by kernel_rfl) (e:=sub64Entry) (by kernel_rfl),run_sub64 x y b a];rfl
def pX(x y:Nat)(d:x<18446744073709551616)(b:y<18446744073709551616)(w:G):af ae 94 #[O J x,O J y] w λe w'=>
 ∃h l:Nat,e=ai (ag #[O J h,O J l])/\w=w'/\l+18446744073709551616*h=x*y/\l<18446744073709551616/\h<18446744073709551615:=by
 refine(Tryz.Q8 x y d b w).mono λe w' ⟨c,a⟩=>⟨x*y/18446744073709551616,x*y%18446744073709551616,c,a.symm,by omega,by omega,?_⟩;have f:x*y<=18446744073709551615*18446744073709551615:=io (by omega) (by omega);omega
def Wds.A8(h:Wds w v l):∃a n c,v=I a n c:=by
 rcases h.E3 with⟨rfl,_⟩|⟨g,cap,rfl,_⟩<;>exact⟨_,_,_,rfl⟩
def aBp(w:G)(n:Nat)(e:ei)(w':G):Prop:=∃a k c,e=ai (K #[I a k c])/\Wds w' (I a k c) (S n)/\V w w w'
def pB(w:G)(n:Nat)(b:ao)(e:ei)(w':G):Prop:=∃a k c,e=ai (ag #[K #[I a k c],b])/\Wds w' (I a k c) (S n)/\V w w w'
def aAG(B:Nat)(v:ao)(l:List Nat)(w:G)(D:ar l)(h:Row B 30 kC w v l):af ae 249 #[v] w λe w'=>
 ∃a k c,e=ai (K #[I a k c])/\Row B 30 kC w' (I a k c) (S (X l))/\V w w w':=by
 rcases Wds.E3 (h.I3 (dr _))with⟨rfl,rfl⟩|⟨g,cap,rfl,y,L,H,b⟩
 .go_enter func249,ntmps249;go_wp2;refine wp_loop_rounds 1 ?_;rw[rounds_succ];go_wp2;refine bb (v:=K #[()]) (by simp[ak,gl,go_sem]) rfl ⟨_,_,_,rfl,?_,?_⟩
  .simp only[X,ej];exact fm _ _ _ _
  .exact(dk _ _).alloc (hU _) _
 .have r:l.length<=9223372036854775807:=by unfold aw at H;omega
  go_enter func249,ntmps249;go_wp2;go_loop [3] (λn=>∃k:Nat,k<=l.length/\n=O au k/\∀i,k<=i->l.getD i 0=0) (λn=>(ah n).toNat)
  case atStart=>exact⟨l.length,hU _,rfl,λi hi=>by simp[bk,nu hi]⟩
  case round=>
   obtain⟨k,o,rfl,s⟩:=hrel;have t:=A s;clear s
   have d:∀m,m<=l.length->m=k->(k=0\/l.getD (k-1) 0≠0)->Row B 30 kC w (I g m cap) (S (X l)):=by
    intro m z e C;subst e;rw[Lim.limbs_take D o t.o C];exact h.B3 o
   have j:=A d;clear d;by_cases p:k=0
   .subst p;simp only[gL]at*;go_wp2;refine bb (v:=K #[I g 0 cap]) (by simp[ak,gl,go_sem]) rfl ⟨_,_,_,rfl,?_,?_⟩
    .exact(j.o 0 (by omega) rfl (by simp)).A7 ((dk _ _).alloc (hU _) _)
    .exact(dk _ _).alloc (hU _) _
   .have u:(w.alloc (U #[()] 381)).cell? ⟨g,k-1,W⟩=Z (O J (l.getD (k-1) 0:Nat)):=by
     rw[pi _ _ ⟨g,k-1,W⟩ (by simpa using y)];exact b _ (by omega)
    generalize F:l.getD (k-1) 0=x at*;by_cases f:x=0
    .subst f;go_wp2
     refine ⟨⟨k - 1, by omega, by have : ((k - 1 : Nat) : Int) = (k : Int) - 1 := by omega
                                  rw[this],λi hi=>?_⟩,by simp[ah];omega⟩
     by_cases q:i=k-1
     .subst q;exact F
     .exact t.o i (by omega)
    .go_wp2;refine bb (v:=K #[I g k cap]) (by simp[ak,gl,go_sem]) rfl ⟨_,_,_,rfl,?_,?_⟩
     .exact(j.o k o rfl (.inr f)).A7 ((dk _ _).alloc (hU _) _)
     .exact(dk _ _).alloc (hU _) _
def jW(v:ao)(l:List Nat)(w:G)(a:ar l)(h:Wds w v l):af ae 249 #[v] w λe w'=>
 aBp w (X l) e w':=aAG 0 v l w a h
def aBq(x:Nat)(w:G)(p:x<18446744073709551616):af ae 231 #[O J x] w λe w'=>aBp w x e w':=by
 have j:Wds ((w.alloc (U #[()] 381)).alloc (U #[O J x] 30)) (I (w.heap.size+1,0) 1 1) [x]:=by
  have:=Wds.E9 (w.alloc (U #[()] 381)) [x] (by simp[aw]);simpa using this
 have h:X [x]=x:=by simp[X]
 have o:=A h;clear h;go_enter func231,ntmps231;go_wp2_with fail;refine(jW _ [x] _ (λy l=>by simp at l;omega) j).mono ?_;rintro e w1 ⟨a,k,c,rfl,f,i⟩;rw[o.o]at f;obtain⟨b,_,d,-⟩:=after2 i;have g:=Q b;have n:=bp b;have m:=A f;clear f;go_wp2;exact bb (v:=K #[I a k c]) (by simp[ak,results231,go_sem,g]) rfl ⟨a,k,c,rfl,m.o.E0 b (by decide) _ _,d.setCell (hU _) _⟩
def bitLen_eq(x:Nat)(a:x<18446744073709551616):gn x=Y x:=by
 have b:∀f x,x<2^f->go f x=Y x:=by
  intro f
  induction f with
  | zero => intro x a; have : x = 0 := by simpa using a
            subst this;simp[go,Y]
  | succ f i=>
   intro x a;unfold go;by_cases h:x=0
   .subst h;simp[Y]
   .rw[py h,i (x/2) (by rw[jx]at a;omega)];refine ow ?_ ?_
    .have:Y (x/2)<Y x:=by
      have g : 0 < Y x := by rcases hG (Y x) with c | c
                             .have:=cw.1 (nl c);simp at this;omega
                             .exact c
      have:Y (x/2)<=Y x-1:=cw.2 (by
       have e:=du (n:=x);obtain⟨m,d⟩:∃m,Y x=m+1:=⟨_,(Nat.succ_pred_eq_of_pos g).symm⟩;rw[d,jx]at e;rw[d,Nat.add_sub_cancel];omega)
      omega
     omega
    .refine cw.2 ?_;have e:=du (n:=x/2);rw[lw,jx];omega
 exact b 64 x (by simpa using a)
def wH(a:Option bg)(k c:Nat)(n:Nat)(w:G)(h:Wds w (I a k c) (S n))(C:(S n).length<=4294967296):af ae 252 #[K #[I a k c]] w λe w'=>
 e=ai (O au (Y n))/\V w w w':=by
 by_cases r:n=0
 .subst r;rw[ej]at h;rcases h.E3 with⟨f,_⟩|⟨g,cap,f,_⟩
  all_goals
   injection f with m l p;subst m l p;go_enter func252,ntmps252;go_wp2;go_ret;exact⟨by simp[Y],(dk _ _).alloc (hU _) _⟩
 .obtain⟨i,d⟩:=gp r;rcases h.E3 with⟨_,f⟩|⟨g,cap,f,u,F,D,b⟩
  .rw[f]at d;simp at d
  .injection f with m l p;subst m l p
   have j:(S n).getD ((S n).length-1) 0<18446744073709551616:=by
    rw[bk,bf (by omega)];exact dv n _ (ph _)
   have B:(w.alloc (U #[I g (S n).length c] 381)).cell? ⟨g,(S n).length-1,W⟩=Z (O J ((S n).getD ((S n).length-1) 0:Nat)):=by
    rw[pi _ _ ⟨g,_,W⟩ (by simpa using u)];exact b _ (by omega)
   clear b;have v:=A i;clear i;generalize y:(S n).length=L at*;clear y h;generalize t:(S n).getD (L-1) 0=x at*;clear t;have q:(0:Int)<=(x:Int):=(by omega);have o:(x:Int)<=18446744073709551615:=(by omega);go_enter func252,ntmps252;go_wp2;go_quiet ((go_at_call 273;exact Calls.quiet_of_same (Tryz.Q7 _ _ q o)));go_wp2;go_ret;refine⟨?_,below_drewN ((dk _ _).alloc (hU _) _) _⟩;have s:gn x<=64:=Lib.bitLen_le x 64 (hU _) (by simpa using j)
   have e:wrap64 (64*((L:Int)-1)+(gn x:Int))=(Y n:Int):=by
    rw[jq _ ⟨by omega,by omega⟩,v.o,<-bitLen_eq x j];omega
   exact congrArg (λz=>ai (O au z)) e
def aIT(n:Nat):Nat:=if 8192<Y n then 0 else n
def aEy(n:Nat):ao:=if 8192<Y n then .iface 29 (O au 11)else bw
def wR(h:Y n<=8192):aIT n=n:=py (by omega)
def aCw(h:Y n<=8192):aEy n=bw:=py (by omega)
def nQ(a:Option bg)(k c:Nat)(n:Nat)(w:G)(h:Wds w (I a k c) (S n))(m:(S n).length<=4294967296):af ae 248 #[K #[I a k c]] w λe w'=>
 pB w (aIT n) (aEy n) e w':=by
 unfold aIT aEy;have j:Wds ((w.alloc (U #[I a k c] 381)).alloc (U #[()] 381)) (I a k c) (S n):=h.A7 (((dk _ _).alloc (hU _) _).alloc (by simp) _);by_cases g:8192<Y n
 all_goals
  simp only[g,if_true,if_false];go_enter func248,ntmps248;go_wp2_with fail;refine(wH a k c n _ j m).mono ?_;rintro e w1 ⟨rfl,l⟩;obtain⟨i,d,b,-⟩:=after2 l;have q:=Q i;have f:=Q d;have o:=bp d;have p:(8192:Int)<(Y n:Int)\/¬(8192:Int)<(Y n:Int):=by omega
  go_wp2
 .refine bb (v:=ag #[K #[()],.iface 29 (O au 11)]) (by simp[ak,iu,go_sem,f]) rfl ⟨W,0,0,rfl,?_,b.setCell (by simp) _⟩;rw[ej];exact Wds.nil _
 .refine bb (v:=ag #[K #[I a k c],bw]) (by simp[ak,iu,go_sem,f]) rfl ⟨a,k,c,rfl,?_,b.setCell (by simp) _⟩;exact(h.A7 b).E0 d (by decide) _ _
def wS(a:Option bg)(k c:Nat)(l:List Nat)(i:Int)(w:G)(h:Wds w (I a k c) l)(hi:0<=i)(s:i<=4294967296):af ae 278 #[K #[I a k c],i] w λe w'=>
 e=ai (O J (l.getD i.toNat 0:Nat))/\V w w w':=by
 obtain⟨i,rfl⟩:=Int.eq_ofNat_of_zero_le hi;rw[gq];rcases h.E3 with⟨o,rfl⟩|⟨g,cap,o,p,t,q,b⟩
 .injection o with m j n;subst m j n;go_enter gr,gu;go_wp2;go_ret;exact⟨by simp,(dk _ _).alloc (hU _) _⟩
 .injection o with m j n;subst m j n;by_cases f:i<l.length
  .have r:(w.alloc (U #[I g l.length c] 381)).cell? ⟨g,i,W⟩=Z (O J (l.getD i 0:Nat)):=by
    rw[pi _ _ ⟨g,_,W⟩ (by simpa using p)];exact b _ f
   clear b h;generalize d:l.getD i 0=x at*;clear d;go_enter gr,gu;go_wp2;go_ret;exact⟨rfl,(dk _ _).alloc (hU _) _⟩
  .have d:l.getD i 0=0:=(by simp[bk,nu (by omega:l.length<=i)]);rw[d];clear b h d;go_enter gr,gu;go_wp2;go_ret;exact⟨rfl,(dk _ _).alloc (hU _) _⟩
def rP(a:Option bg)(c n:Nat)(i:Int)(w:G)(h:Wds w (I a (S n).length c) (S n))(hi:0<=i)(r:i<=4294967296):af ae 257 #[K #[I a (S n).length c],i] w λe w'=>
 e=ai (cg (n.testBit i.toNat))/\V w w w':=by
 have k:0<=i/64:=by omega
 have f:i/64<=4294967296:=by omega
 go_enter func257,ntmps257;go_wp2_with fail;refine(wS a _ c (S n) (i/64) _ (h.A7 ((dk _ _).alloc (hU _) _)) k f).mono ?_;rintro e w1 ⟨rfl,p⟩;obtain⟨_,j,_⟩:=after1 p;rw[eu]
 have d:((n/18446744073709551616^(i/64).toNat%18446744073709551616/2^(i%64).toNat)%2==1)=n.testBit i.toNat:=by
  have e:∀y m:Nat,(y/2^m%2==1)=y.testBit m:=λy m=>by rw[ew];rfl
  rw[e,show(18446744073709551616:Nat)=2^64 by decide,<-na,Nat.testBit_mod_two_pow,Nat.testBit_div_two_pow,decide_eq_true (by omega),Bool.true_and];congr 1;omega
 have o:n/18446744073709551616^(i/64).toNat%18446744073709551616<18446744073709551616:=mf _ (by decide);have g:=A d;clear d h;generalize n/18446744073709551616^(i/64).toNat%18446744073709551616=x at*;go_wp2;go_ret;rw[<-g.o];refine⟨congrArg (λb=>ai (cg b)) (a₁:=(cj fu J ((x:Int)/2^(i%64).toNat) 1==1)) ?_,j⟩;have l:x/2^(i%64).toNat<=x:=fv _ _
 have e:cj fu J ((x:Int)/2^(i%64).toNat) 1=((x/2^(i%64).toNat%2:Nat):Int):=by
  have q:(x:Int)/2^(i%64).toNat=((x/2^(i%64).toNat:Nat):Int):=by simp
  rw[q];generalize x/2^(i%64).toNat=y at l⊢;rw[and_one_u64 _ (by omega) (by omega)];omega
 rw[e,fa];simp only[beq_iff_eq];generalize x/2^(i%64).toNat=y;omega
def gS(a:k<l.length):X (l.take (k+1))=X (l.take k)+18446744073709551616^k*l.getD k 0:=by
 rw[List.take_succ_eq_append_getElem a,co,List.length_take,Nat.min_eq_left (by omega)];simp[X,bk,bf a]
def aEz{v f:Nat}(h:v+P*b=t*d+a)(i:f+18446744073709551616*hi=x*d)(g:s+18446744073709551616*c=f+b):
 v+P*s+P*18446744073709551616*(hi+c)=(t+P*x)*d+a:=by
 have e:s+18446744073709551616*(hi+c)=b+x*d:=by omega
 rw[kh P,fo,<-pp,e,pp,lu,kh];omega
def aAH(v:ao)(l:List Nat)(d j:Nat)(w:G)(a0:Wds w v l)(hs:ar l)(hd:d<18446744073709551616)(T:j<18446744073709551616)(hl:l.length<=4294967296):
 af ae 247 #[v,O J d,O J j] w λe w'=>∃a c r,e=ai (I a r.length c)/\Wds w' (I a r.length c) r/\ar r/\X r=X l*d+j/\r.length=l.length+1/\V w w w':=by
 obtain⟨va,vc,rfl⟩:=bz a0;obtain⟨i0,z0,h0,h4,H,L,-⟩:=nP.2;have h5:i0.bytes*(l.length+1)<=281474976710656:=by rw[L];omega
 go_enter func247,ntmps247;go_wp2_with (at_make;refine iw _ rfl _ _ 379 rfl w.heap.size 30 i0 z0 1 fk h0 h4 H _ _ _ (l.length+1) rfl rfl ?c1 h5 ?c2 (hU _) ?_)
 case c1=>omega
 case c2=>unfold aw;omega
 intro w1 h f;go_wp2
 go_loopw [7,19,2,9,10,11,12] (λo i m _ _ _ _ wr=>∃(k t:Nat)(r:List Nat),k<=l.length/\i=O au k/\m=O J t/\t<18446744073709551616/\Row w.heap.size 30 kC wr o r/\V w w wr/\r.length=k/\ar r/\
  X r+18446744073709551616^k*t=X (l.take k)*d+j) (λ_ i _ _ _ _ _ _=>l.length-(ah i).toNat)
 case atStart=>exact⟨0,j,[],dr _,rfl,rfl,T,h,(dk _ _).grown f (hU _) (λk e=>by cases e),rfl,(λx hx=>by cases hx),by simp[X]⟩
 case round=>
  obtain⟨k,t,r,R,rfl,rfl,N,n,p,u,P,q⟩:=hrel;have HV:=A q;clear q;have B:=A u;clear u;clear h f;by_cases u:k<l.length
  .rcases Wds.E3 a0 with⟨_,hn⟩|⟨g,cap,he,hg,_,_,f⟩
   .subst hn;simp at u
   .injection he with h1 h h3;subst h1 h3;have hx:l.getD k 0<18446744073709551616:=hs _ (by rw[bk,bf u];exact ph _);have h6:wr.cell? ⟨g,k,W⟩=Z (O J (l.getD k 0:Nat)):=(p.cell (by simpa using hg)).trans (f k u);clear f;have f:=gS u;generalize q:l.getD k 0=x at*;have HT:=A f;clear f q h;go_wp2_with fail;refine(pX x d hx hd _).mono ?_;rintro e w' ⟨hi,lo,rfl,rfl,f,z,h7⟩;obtain⟨s,cy,h,h8,h9,C⟩:=mR lo t z N;have HM:=A f;have HA:=A h;clear f h;have q:V w w (wr.alloc (U #[O J s] 30)):=p.alloc p.size _;go_wp2_with (at_builtin;refine cV nP rfl _ _ rfl rfl (n.A5 _) ⟨wr.heap.size,0,W⟩ 1 s rfl ?a1 rfl ?a2 ?a3 ?a4 ?_)
    case a1=>simp
    case a2=>have:=B.o;omega
    case a3=>have:=B.o;unfold aw;omega
    case a4=>exact q.size
    intro b cap w2 h f;have D:V w w w2:=q.grown f q.size (λk R=>(n.lt k R).1);have F:=A h;clear h f n;go_wp2;go_roundw
    case rel=>
     refine⟨k+1,hi+cy,r++ [s],by omega,by go_num,by go_num,by omega,F.o,D,by simp[B.o],cz.2 ⟨P,λy hy=>by simp at hy;omega⟩,?_⟩;rw[HT.o,co,B.o,jx];simp only[X,ek,lv];exact aEz HV.o HM.o HA.o
    case measure=>simp[ah];omega
  .have z:k=l.length:=by omega
   have C:X (r++ [t])=X l*d+j:=by
    have:=HV.o;rw[z,pd]at this;rw[co,B.o,z];simpa[X]using this
   have HF:=A C;have HK:=A z;clear C z;have q:V w w (wr.alloc (U #[O J t] 30)):=p.alloc p.size _;go_wp2_with (at_builtin;refine cV nP rfl _ _ rfl rfl (n.A5 _) ⟨wr.heap.size,0,W⟩ 1 t rfl ?b1 rfl ?b2 ?b3 ?b4 ?_)
   case b1=>simp
   case b2=>have:=B.o;omega
   case b3=>have:=B.o;unfold aw;omega
   case b4=>exact q.size
   intro b cap w2 h f;have D:V w w w2:=q.grown f q.size (λk R=>(n.lt k R).1);have z:(r++ [t]).length=l.length+1:=(by simp[B.o,HK.o]);have F:=A h;have C:=A z;clear h f n z;go_wp2;go_ret;have e:r.length+1=(r++ [t]).length:=(by simp);refine⟨Z ⟨b,0,W⟩,cap,r++ [t],?_,?_,cz.2 ⟨P,λy hy=>by simp at hy;omega⟩,HF.o,C.o,D⟩
   .rw[<-e];rfl
   .rw[<-e];exact F.o.I3 (dr _)
def aEA(a:Option bg)(k c n d:Nat)(w:G)(P:Wds w (I a k c) (S n))(z:d<18446744073709551616)(R:(S n).length<=4294967295):
 af ae 272 #[K #[I a k c],O J d] w λe w'=>
  pB w (aIT (n*d)) (aEy (n*d)) e w':=by
 have s:Wds ((w.alloc (U #[I a k c] 381)).alloc (U #[()] 381)) (I a k c) (S n):=P.A7 (((dk _ _).alloc (hU _) _).alloc (by simp) _);go_enter func272,ntmps272;go_wp2_with fail;refine(aAH _ (S n) d 0 _ s (dv n) z (by decide) (by omega)).mono ?_;rintro e w1 ⟨a1,c1,r,rfl,t,g,b,f,B⟩;obtain⟨C,j,l,D⟩:=after2 B;rw[fd,lv]at b;have u:=A b;have F:=A f;clear b f;go_wp2_with fail;refine(jW _ r _ g t).mono ?_;rintro e w2 ⟨a2,H,c2,rfl,m,h⟩;rw[u.o]at m
 have b:(S (n*d)).length<=4294967296:=by
  have f:=gv g;rw[u.o]at f;have:=gw f;have:=F.o;omega
 go_wp2_with fail;refine(nQ a2 H c2 (n*d) _ m b).mono ?_;rintro e T ⟨a3,x,y,rfl,f,i⟩;have o:=keep (keep j h) i;have p:=Q o;have L:=bp o;have q:=chain (chain l h) i;have N:=A f;clear f m t s;go_wp2;exact bb (v:=ag #[K #[I a3 x y],aEy (n*d)]) (by simp[ak,results272,go_sem,p]) rfl ⟨a3,x,y,rfl,N.o.E0 o (by decide) _ _,q.setCell (by simp) _⟩
def aG9(b n:Nat)(w:G)(g3:2<=b)(s:b<18446744073709551616)(hn:n<=8192)(d:Y (b^n)<=8192):
 af ae 251 #[O J b,n] w λe w'=>pB w (b^n) bw e w':=by
 have f:=aBq 1;have m:=A f;clear f;rcases hG n with rfl|P
 .simp only[gL];go_enter func251,ntmps251;go_wp2_with fail;refine(m.o _ (by decide)).mono ?_;rintro e w1 ⟨a,k,c,rfl,f,t⟩;obtain⟨g,h,-⟩:=after1 t;have l:=Q g;have o:=bp g;have u:=A f;clear f;go_wp2;exact bb (v:=ag #[K #[I a k c],bw]) (by simp[ak,ix,go_sem,l]) rfl ⟨a,k,c,rfl,u.o.E0 g (by decide) _ _,h.setCell (by simp) _⟩
 .have g5:((n:Int)==0)=cr:=by simp;omega
  have R:¬(b:Int)<2:=by omega
  go_enter func251,ntmps251;go_wp2_with fail;refine(m.o _ (by decide)).mono ?_;rintro e w1 ⟨a,k,c,rfl,f,t⟩;obtain⟨g,h,g7⟩:=after1 t;have u:=A f;clear f;have p:w.heap.size≠w1.heap.size:=by omega
  have l:(w1.alloc (U #[I a k c] 381)).heap[w1.heap.size]?=Z (U #[I a k c] 381 (0,0)):=aL w1 _;have o:(w1.alloc (U #[I a k c] 381)).heap[w.heap.size]?=Z (U #[()] 381 (0,0)):=(de w1 _ _ (by omega)).trans g;have f:∀j,j<=n->Y (b^j)<=8192:=λj T=>bo (Lim.bitlen_mono (ju (by omega) T)) d;have x:=A f;have H6:=A l;have H4:=A o;have HP:=A p;clear f d l o g p;go_wp2
  go_loopw [30,7,8] (λi _ _ wr=>∃(j:Nat)(a:Option bg)(k c:Nat),j<=n/\i=O au j/\wr.heap[w1.heap.size]?=Z (U #[I a k c] 381 (0,0))/\wr.heap[w.heap.size]?=Z (U #[()] 381 (0,0))/\
   Wds wr (I a k c) (S (b^j))/\V w w wr) (λi _ _ _=>n-(ah i).toNat)
  case atStart=>exact⟨0,a,k,c,by omega,rfl,H6.o,H4.o,u.o.A7 ((dk _ _).alloc (hU _) _),h.alloc (by omega) _⟩
  case round=>
   obtain⟨j,y,z,B,T,rfl,C,o,g,d⟩:=hrel;have D:=Q C;have F:=Q o;have g8:=bp o;by_cases g9:j<n
   .go_wp2_with fail;refine(aEA y z B (b^j) b _ g s (bo (fe (k:=128) (x.o j (by omega))) (by decide))).mono ?_;rintro e w2 ⟨a2,k2,c2,rfl,l,f⟩;have H:b^j*b=b^(j+1):=(jx b j).symm;rw[H,wR (x.o (j+1) (by omega))]at l;rw[H,aCw (x.o (j+1) (by omega))];have p:=keep C f;have L:=keep o f;have gb:=chain d f;have N:=A l;have D:=Q p;have h0:=bp p;have q:w1.heap.size<w2.heap.size:=dm p;have r:w.heap.size<w2.heap.size:=dm L;clear l H g d;have l:=A p;have H:=A L;clear p L C o;go_wp2;go_roundw
    case rel=>
     exact⟨j+1,a2,k2,c2,by omega,by go_num,(de _ _ _ (by simpa using q)).trans (aB l.o _),(de _ _ _ (by simpa using r)).trans ((aE _ HP.o).trans H.o),
      (N.o.E0 l.o (by decide) _ _).A5 _,(gb.setCell (by simp;omega) _).alloc (by simp;omega) _⟩
    case measure=>simp[ah];omega
   .have e:j=n:=(by omega);have l:=A e;have f:=A g;clear e g;go_wp2_with fail;rw[l.o]at f;exact bb (v:=ag #[K #[I y z B],bw]) (by simp[ak,ix,go_sem,F]) rfl ⟨y,z,B,rfl,f.o.E0 o (by decide) _ _,d.setCell (by simp) _⟩
def aEB{v:Nat}(h:v+P*b=2*t+a)(c:s+18446744073709551616*q=2*x+b):v+P*s+P*18446744073709551616*q=2*(t+P*x)+a:=by
 rw[kh P,fo,<-pp,c,pp,pp,dw];omega
def aKR(x c:Nat)(e:x<18446744073709551616)(d:c<=1):∃s:Nat,cj dx J (J.wrap ((x:Int)*2)) (c:Int)=s/\s<18446744073709551616/\s+18446744073709551616*(x/9223372036854775808)=2*x+c:=by
 have b:J.wrap ((x:Int)*2)=((2*(x%9223372036854775808):Nat):Int):=by
  rw[em];omega
 have a:2*(x%9223372036854775808)||| c=2*(x%9223372036854775808)+c:=(ga (i:=1) (by omega) (x%9223372036854775808)).symm;refine⟨2*(x%9223372036854775808)+c,?_,by omega,by omega⟩;rw[b,fg _ _ (by omega) (by omega),a]
def aHa(a:Option bg)(k c n:Nat)(b:Bool)(w:G)(a0:Wds w (I a k c) (S n))(hl:(S n).length<=4294967295):
 af ae 275 #[K #[I a k c],b] w λe w'=>aBp w (2*n+b.toNat) e w':=by
 obtain⟨va,vc,he⟩:=bz a0;injection he with h1 q h3;subst h1 q h3;obtain⟨i0,z0,g6,g7,L,N,-⟩:=nP.2;generalize f:S n=l at*;have g8:ar l:=f▸dv n;have d:X l=n:=f▸fd n;have g9:=A d;clear f d;have h0:i0.bytes*(l.length+1)<=281474976710656:=by rw[N];omega
 obtain⟨p,d,h4⟩:∃m:Nat,b.toNat=m/\m<=1:=⟨b.toNat,rfl,by cases b<;>decide⟩;have h5:=A d;rw[d];clear d;cases b
 all_goals
  go_enter func275,ntmps275;go_wp2_with (at_make;refine iw _ rfl _ _ 379 rfl (w.heap.size+2) 30 i0 z0 1 fk g6 g7 L _ _ _ (l.length+1) rfl rfl ?_ h0 ?_ ?_ ?_)
  .omega
  .unfold aw;omega
  .simp
  intro w1 f d;obtain⟨g1,h,P,h6⟩:=after2 ((dk _ _).grown d (hU _) (λk e=>by cases e));have h8:=Q g1;have G1:=A g1;have G2:=A h;have HO:M (Row (w.heap.size+2) 30 kC w1 (I (w.heap.size+1+1,0) 0 (l.length+1)) []):=f;clear f d g1 h;go_wp2
  go_loopw [5,18,6,8] (λo i m _ wr=>∃(k t:Nat)(r:List Nat),k<=l.length/\i=O au k/\m=O J t/\t<=1/\Row (w.heap.size+2) 30 kC wr o r/\V (w.heap.size+2) w1 wr/\r.length=k/\ar r/\
   X r+18446744073709551616^k*t=2*X (l.take k)+p) (λ_ i _ _ _=>l.length-(ah i).toNat)
  case atStart=>exact⟨0,p,[],dr _,rfl,by rw[<-h5.o];rfl,h4,HO.o,dk _ _,rfl,(λx hx=>by cases hx),by simp[X]⟩
  case round=>
   obtain⟨k,t,r,hk,rfl,rfl,R,h,j,f,T,d⟩:=hrel;have HV:=A d;have C:=A f;clear d f;have z:w.heap.size+2<=wr.heap.size:=bo h6 j.size;by_cases u:k<l.length
   .rcases Wds.E3 a0 with⟨_,B⟩|⟨g,cap,he,H,_,_,d⟩
    .subst B;simp at u
    .injection he with h1 q h3;subst h1 h3;have hx:l.getD k 0<18446744073709551616:=g8 _ (by rw[bk,bf u];exact ph _);have h7:wr.cell? ⟨g,k,W⟩=Z (O J (l.getD k 0:Nat)):=(j.cell (by simp;omega)).trans ((P.cell H).trans (d k u));clear d;have d:=gS u;generalize f:l.getD k 0=x at*;have HT:=A d;clear d f q;obtain⟨s,h9,i1,d⟩:=aKR x t hx R;have HS:=A d;clear d;have D:V (w.heap.size+2) w1 (wr.alloc (U #[O J s] 30)):=j.alloc z _;go_wp2_with (at_builtin;refine cV nP rfl _ _ rfl rfl (h.A5 _) ⟨wr.heap.size,0,W⟩ 1 s rfl ?_ rfl ?_ ?_ ?_ ?_)
     .simp
     .have:=C.o;omega
     .have:=C.o;unfold aw;omega
     .simp;omega
     intro b cap w2 f d;have q:V (w.heap.size+2) w1 w2:=D.grown d (by simp;omega) (λk hk=>(h.lt k hk).1);have F:=A f;clear f d h;go_wp2;go_roundw
     case rel=>
      refine⟨k+1,x/9223372036854775808,r++ [s],by omega,by go_num,by go_num,by omega,F.o,q,by simp[C.o],cz.2 ⟨T,λy hy=>by simp at hy;omega⟩,?_⟩;rw[HT.o,co,C.o,jx];simp only[X,ek,lv];exact aEB HV.o HS.o
     case measure=>simp[ah];omega
   .have H:k=l.length:=by omega
    have B:X (r++ [t])=2*n+p:=by
     have:=HV.o;rw[H,pd,g9.o]at this;rw[co,C.o,H];simpa[X]using this
    have HF:=A B;clear B H;have D:V (w.heap.size+2) w1 (wr.alloc (U #[O J t] 30)):=j.alloc z _;go_wp2_with (at_builtin;refine cV nP rfl _ _ rfl rfl (h.A5 _) ⟨wr.heap.size,0,W⟩ 1 t rfl ?_ rfl ?_ ?_ ?_ ?_)
    .simp
    .have:=C.o;omega
    .have:=C.o;unfold aw;omega
    .simp;omega
    intro b cap w2 f d;have q:V (w.heap.size+2) w1 w2:=D.grown d (by simp;omega) (λk hk=>(h.lt k hk).1);have F:=A f;clear f d h;have g4:w2.heap[w.heap.size+1]?=Z (U #[()] 381 (0,0)):=(q.block _ (by omega)).trans G2.o;have f:V w w w2:=P.trans (q.mono (by omega));go_wp2_with fail;refine(jW _ (r++ [t]) _ (cz.2 ⟨T,λy hy=>by simp at hy;omega⟩) (F.o.I3 (dr _))).mono ?_;rintro e w3 ⟨a3,k3,c3,rfl,h,d⟩;rw[HF.o]at h;have B:=keep g4 d;have H:=Q B;have h9:=bp B;have h7:=chain f d;have HM:=A h;clear h g4 q;go_wp2;exact bb (v:=K #[I a3 k3 c3]) (by simp[ak,results275,go_sem,H]) rfl ⟨a3,k3,c3,rfl,HM.o.E0 B (by decide) _ _,h7.setCell (by simp) _⟩
def rQ(n m:Nat):Int:=if n<m then -1 else if m<n then 1 else 0
def aIU(h:n/18446744073709551616^(k+1)=m/18446744073709551616^(k+1)):
 (n/18446744073709551616^k%18446744073709551616<m/18446744073709551616^k%18446744073709551616->n<m)/\
 (m/18446744073709551616^k%18446744073709551616<n/18446744073709551616^k%18446744073709551616->m<n)/\
 (n/18446744073709551616^k%18446744073709551616=m/18446744073709551616^k%18446744073709551616->n/18446744073709551616^k=m/18446744073709551616^k):=by
 rw[jx,<-nh,<-nh]at h;have a1:m<=n->m/18446744073709551616^k<=n/18446744073709551616^k:=λh=>nn h;have a2:n<=m->n/18446744073709551616^k<=m/18446744073709551616^k:=λh=>nn h;generalize n/18446744073709551616^k=N at*;generalize m/18446744073709551616^k=c at*;refine⟨λb=>?_,λb=>?_,λb=>by omega⟩
 .rcases mx n m with a|a
  .exact a
  .have:=a1 a;omega
 .rcases mx m n with a|a
  .exact a
  .have:=a2 a;omega
def rR(a:Option bg)(k c:Nat)(n x:Nat)(i:Nat)(w:G)(h:Wds w (I a k c) (S n))(b:(i:Int)<=4294967296)(d:n/18446744073709551616^i%18446744073709551616=x):af ae 278 #[K #[I a k c],i] w λe w'=>
 e=ai (O J x)/\V w w w':=by
 have:=wS a k c (S n) i w h (by omega) b;rw[gq,eu,d]at this;exact this
def aGy(a l:Option bg)(k k' c o n m:Nat)(w:G)(f:Wds w (I a k c) (S n))(b:Wds w (I l k' o) (S m))(hl:(S n).length<=4294967295)(g5:(S m).length<=4294967295):
 af ae 276 #[K #[I a k c],K #[I l k' o]] w λe w'=>e=ai (O au (rQ n m))/\V w w w':=by
 obtain⟨va,vc,P⟩:=bz f;injection P with R T h3;subst R T h3;obtain⟨g6,g7,P⟩:=bz b;injection P with R T h3;subst R T h3
 have d:n/18446744073709551616^(max (S n).length (S m).length)=m/18446744073709551616^(max (S n).length (S m).length):=by
  rw[oo (ee (Nat.le_max_left _ _)),oo (ee (Nat.le_max_right _ _))]
 have HZ:=A d;clear d;have u:V w w ((w.alloc (U #[I a (S n).length c] 381)).alloc (U #[I l (S m).length o] 381)):=((dk _ _).alloc (hU _) _).alloc (by simp) _;have H:=A f;have H':=A b;clear f b;generalize d:(S n).length=a0 at*;generalize b:(S m).length=t at*;have g8:=A b;clear d b;go_enter func276,ntmps276;go_wp2
 go_loopw [5,6,7] (λi _ _ wr=>∃(k:Nat),k<=max a0 t/\i=O au ((k:Int)-1)/\n/18446744073709551616^k=m/18446744073709551616^k/\V w w wr/\
  wr.heap[w.heap.size]?=Z (U #[I a a0 c] 381 (0,0))/\wr.heap[w.heap.size+1]?=Z (U #[I l t o] 381 (0,0))) (λi _ _ _=>(ah i+1).toNat)
 case atStart=>exact⟨max a0 t,hU _,by simp;omega,HZ.o,u,(de _ _ _ (by simp)).trans (aL w _),by simpa using aL (w.alloc (U #[I a a0 c] 381)) (U #[I l t o] 381)⟩
 case round=>
  obtain⟨k,hk,rfl,b,d,g1,v⟩:=hrel;have B:=Q g1;have C:=Q v;have HQ:=A b;clear b;have q:w.heap.size<wr.heap.size:=dm g1;have r:w.heap.size+1<wr.heap.size:=dm v;rcases hG k with rfl|g9
  .have f:rQ n m=0:=(by have:=HQ.o;simp at this;subst this;simp[rQ]);have D:=A f;clear f;simp only[gL]at*;go_wp2;go_ret;rw[D.o];exact⟨rfl,d⟩
  .obtain⟨j,rfl⟩:∃j,k=j+1:=⟨k-1,by omega⟩;have b:((j+1:Nat):Int)-1=(j:Int):=(by omega);rw[b];clear b;have s:(j:Int)<=4294967296:=(by omega);have HW:M (∀F,V w w F->Wds F (I a a0 c) (S n)/\Wds F (I l t o) (S m)):=λF g=>⟨H.o.A7 g,H'.o.A7 g⟩;have b:=aIU HQ.o;obtain⟨x,g⟩:∃x,n/18446744073709551616^j%18446744073709551616=x:=⟨_,rfl⟩;obtain⟨y,z⟩:∃y,m/18446744073709551616^j%18446744073709551616=y:=⟨_,rfl⟩;rw[g,z]at b;have HX:=A g;have HY:=A z;have h:=A b;clear g z b;have G1:=A g1;have G2:=A v;clear g1 v u;go_wp2
   go_region_held3 (λw'=>w'.cell? w=Z (I a a0 c)/\w'.cell? ⟨w.heap.size+1,0,W⟩=Z (I l t o)) (first|exact⟨u,v⟩|exact⟨L,N⟩|go_keep)
    (first|(go_at_call 278;(with_reducible refine(rR a a0 c n x j _ (HW.o _ d.drew).1 s HX.o).mono ?_);rintro e F ⟨rfl,b⟩;have u:=(b.cell (p:=w) (by simpa using q)).trans B;have v:=(b.cell (p:=⟨w.heap.size+1,0,W⟩) (by simpa using r)).trans C)|(go_at_call 278;(with_reducible refine(rR l t o m y j _ (HW.o _ (chain d.drew b)).2 s HY.o).mono ?_);rintro e z ⟨rfl,g⟩;have L:=(g.cell (p:=w) (by simpa using a7 q b.size)).trans u;have N:=(g.cell (p:=⟨w.heap.size+1,0,W⟩) (by simpa using a7 r b.size)).trans v))
   have z:=chain (chain d.drew b) g;have g3:=A (keep (keep (w1:=wr.drew) G1.o b) g);have g4:=A (keep (keep (w1:=wr.drew) G2.o b) g);clear b g u v L N B C d;rcases oh x y with b|b|b
   .have f:rQ n m= -1:=(by unfold rQ;rw[pz (h.o.1 b)]);have D:=A f;clear f;go_wp2;go_ret;rw[D.o];exact⟨rfl,z⟩
   .subst b;go_wp2;go_roundw
    case rel=>exact⟨j,by omega,rfl,h.o.2.2 rfl,z,g3.o,g4.o⟩
    case measure=>simp[ah]
   .have f:rQ n m=1:=(by unfold rQ;rw[py (by have:=h.o.2.1 b;omega),pz (h.o.2.1 b)]);have D:=A f;clear f;go_wp2;go_ret;rw[D.o];exact⟨rfl,z⟩
def nR(n k:Nat):n%18446744073709551616^(k+1)=n%18446744073709551616^k+18446744073709551616^k*(n/18446744073709551616^k%18446744073709551616):=Nat.mod_pow_succ
def aIV{v:Nat}(h:v+q=t+P*b)(c:s+y+b=x+18446744073709551616*a):(v+P*s)+(q+P*y)=(t+P*x)+P*18446744073709551616*a:=by
 have e:P*s+P*y+P*b=P*x+P*(18446744073709551616*a):=by rw[<-pp,<-pp,<-pp,c]
 rw[kh P];omega
def aKS(w:G)(n:Nat)(e:ei)(w':G):Prop:=∃a k c,e=ai (ag #[K #[I a k c],bw])/\Row w.heap.size 30 kC w' (I a k c) (S n)/\V w w w'
def aKT(a R:Option bg)(k k' c T n m:Nat)(w:G)(a0:Wds w (I a k c) (S n))(h:Wds w (I R k' T) (S m))(hl:(S n).length<=4294967295)(h5:(S m).length<=4294967295)(i7:m<=n):
 af ae 277 #[K #[I a k c],K #[I R k' T]] w λe w'=>aKS w (n-m) e w':=by
 obtain⟨va,vc,he⟩:=bz a0;injection he with t u D;subst t u D;obtain⟨i8,i9,he⟩:=bz h;injection he with t u D;subst t u D;have f:V w w (((w.alloc (U #[I a (S n).length c] 381)).alloc (U #[I R (S m).length T] 381)).alloc (U #[()] 381)):=(((dk _ _).alloc (hU _) _).alloc (by simp) _).alloc (by simp;omega) _;have d:rQ n m=0\/rQ n m=1:=by unfold rQ;rw[py];split<;>simp
 obtain⟨z,j,j0⟩:∃z,rQ n m=z/\0<=z:=⟨_,rfl,by omega⟩;have HZ:=A j;clear j d;have j:=aGy a R _ _ c T n m _ (a0.A7 f) (h.A7 f) hl h5;rw[HZ.o]at j;have H:=A a0;have H':=A h;have d:=a0.E3;have h6:=A d;clear a0 h d;have d:=ee (n:=n) (hU _);have h7:=A d;clear d;have d:∀i,(S n).getD i 0=n/18446744073709551616^i%18446744073709551616:=eu n;have g8:=A d;clear d;generalize h:S n=l at*;have h8:ar l:=h▸dv n;generalize d:(S m).length=L' at*;clear h d;have h9:=A j;clear j;go_enter func277,ntmps277;go_wp2_with fail;refine(h9.o).mono ?_;rintro e w1 ⟨rfl,hb⟩;obtain⟨g1,d,h,F,i0⟩:=tQ hb;have q:=Q g1;have G1:=A g1;have G2:=A d;have G3:=A h;clear g1 d h f;go_wp2
 go_loopw [19,6,7,8,9] (λi o b _ _ wr=>∃(k B:Nat)(r:List Nat),k<=l.length/\i=O au k/\b=O J B/\B<=1/\Row (w.heap.size+3) 30 kC wr o r/\V (w.heap.size+3) w1 wr/\r.length=k/\ar r/\
  X r+m%18446744073709551616^k=n%18446744073709551616^k+18446744073709551616^k*B) (λi _ _ _ _ _=>l.length-(ah i).toNat)
 case atStart=>exact⟨0,0,[],dr _,rfl,rfl,by omega,fm _ _ _ _,dk _ _,rfl,(λx hx=>by cases hx),by simp[X];omega⟩
 case round=>
  obtain⟨k,B,r,hk,rfl,rfl,i1,h,d,j,L,f⟩:=hrel;have HV:=A f;have HR:=A j;clear f j;have C:w.heap.size+3<=wr.heap.size:=bo i0 d.size;have q:=Q ((d.block _ (by omega)).trans G1.o);have g9:=Q ((d.block _ (by omega)).trans G2.o);by_cases N:k<l.length
  .rcases h6.o with⟨_,hn⟩|⟨g,cap,he,hg,_,_,f⟩
   .subst hn;simp at N
   .injection he with t u D;subst t D;have hx:l.getD k 0<18446744073709551616:=h8 _ (by rw[bk,bf N];exact ph _);have h0:wr.cell? ⟨g,k,W⟩=Z (O J (l.getD k 0:Nat)):=(d.cell (by simp;omega)).trans ((F.cell hg).trans (f k N));clear f;have f:=g8.o k;generalize l.getD k 0=x at*;have HX:=A f;clear f u;obtain⟨y,hy⟩:∃y,m/18446744073709551616^k%18446744073709551616=y:=⟨_,rfl⟩;have i2:y<18446744073709551616:=hy▸mf _ (by decide);have f:=rR R L' T m y k wr.drew (H'.o.A7 (F.trans (d.mono (by omega))).drew) (by omega) hy;have i3:=A f;have HY:=A hy;clear f hy;obtain⟨s,b2,f,j1,i4,i6⟩:=zZ x y B hx i2 i1;have HS:=A f;clear f;go_wp2
    go_region_held3 (λw'=>w'.cell? w=Z (I g l.length c)/\w'.cell? ⟨w.heap.size+1,0,W⟩=Z (I R L' T)/\w'.cell? ⟨g,k,W⟩=Z (O J (x:Int))) (first|exact⟨f,P,h4⟩|go_keep)
     ((go_at_call 278;(with_reducible refine(i3.o).mono ?_);rintro e wx ⟨rfl,j⟩;have f:=(j.cell (p:=w) (by simp;omega)).trans q;have P:=(j.cell (p:=⟨w.heap.size+1,0,W⟩) (by simp;omega)).trans g9;have h4:=(j.cell (p:=⟨g,k,W⟩) (by simp;omega)).trans h0))
    have f:Row (w.heap.size+3) 30 kC wx _ r:=ge (w:=wr.drew) h.B0 j;have P:V (w.heap.size+3) w1 wx:=d.drew.trans (j.mono C);have h4:w.heap.size+3<=wx.heap.size:=bo C j.size;clear h d h0 q g9;have g9:V (w.heap.size+3) w1 (wx.alloc (U #[O J s] 30)):=P.alloc h4 _;go_wp2_with (at_builtin;refine cV nP rfl _ _ rfl rfl (f.A5 _) ⟨wx.heap.size,0,W⟩ 1 s rfl ?_ rfl ?_ ?_ ?_ ?_)
    .simp
    .have:=HR.o;omega
    .have:=HR.o;unfold aw;omega
    .simp;omega
    intro b cap w2 q j;have h0:V (w.heap.size+3) w1 w2:=g9.grown j (by simp;omega) (λk hk=>(f.lt k hk).1);have i5:=A q;clear q j f;go_wp2;go_roundw
    case rel=>
     refine⟨k+1,b2,r++ [s],by omega,by go_num,rfl,i4,i5.o,h0,by simp[HR.o],cz.2 ⟨L,λy hy=>by simp at hy;omega⟩,?_⟩;rw[nR n k,nR m k,<-HX.o,HY.o,co,HR.o,jx];simp only[X,ek,lv];exact aIV HV.o HS.o
    case measure=>simp[ah];omega
  .have j:k=l.length:=by omega
   have f:X r=n-m:=by
    have t:=HV.o;have u:=gv L;have D:=h7.o;rw[HR.o]at u;rw[j]at t u;rw[mt D,mt (by omega)]at t
    have:B=0:=by
     rcases(by omega:B=0\/B=1)with a0|a0
     .exact a0
     .subst a0;omega
    subst this;omega
   have HF:=A f;clear f j;have g4:=(d.block _ (by omega)).trans G3.o;have j:V w w wr:=F.trans (d.mono (by omega));go_wp2_with fail;refine(aAG w.heap.size _ r _ L (h.I3 (by omega))).mono ?_;rintro e w3 ⟨a3,k3,c3,rfl,t,f⟩;rw[HF.o]at t;have u:=keep g4 f;have D:=Q u;have h0:=bp u;have P:=chain j f;have HM:=A t;clear t g4 d h;go_wp2;exact bb (v:=ag #[K #[I a3 k3 c3],bw]) (by simp[ak,results277,go_sem,D]) rfl ⟨a3,k3,c3,rfl,HM.o.E0 u (by decide) _ _,P.setCell (by simp;omega) _⟩
def pY(a:k<64):(18446744073709551616:Nat)=2^(64-k)*2^k:=by
 rw[<-ld,Nat.sub_add_cancel (by omega)]
def or0(y:Nat)(a:y<18446744073709551616):cj dx J 0 (y:Int)=y:=by
 have:=fg 0 y (by decide) a;simpa using this
def aLX(d:x<18446744073709551616)(a:k<64):cj dx J 0 ((x:Int)/2^(64-k))=((x*2^k/18446744073709551616:Nat):Int):=by
 have c:x*2^k/18446744073709551616=x/2^(64-k):=by
  rw[pY a];exact Nat.mul_div_mul_right _ _ (kF k)
 have b:((x:Int)/2^(64-k))=((x/2^(64-k):Nat):Int):=by simp
 rw[c,b,or0 _ (lz (fv _ _) d)]
def aIW(x k:Nat):J.wrap ((x:Int)*2^k)=((x*2^k%18446744073709551616:Nat):Int):=by
 have e:(x:Int)*2^k=((x*2^k:Nat):Int):=by simp
 rw[em,e];generalize x*2^k=y;omega
def aLY{h:Nat}(o:h<18446744073709551616)(d:x<18446744073709551616)(b:k<64):
 cj dx J ((x:Int)/2^k) (J.wrap ((h:Int)*2^(64-k)))=(((h*18446744073709551616+x)/2^k%18446744073709551616:Nat):Int):=by
 rw[aIW];have i:((x:Int)/2^k)=((x/2^k:Nat):Int):=by simp
 have e:0<2^k:=kF k;have c:x/2^k<2^(64-k):=nm (by rw[ke,<-pY b];exact d)
 have f:h*2^(64-k)%18446744073709551616=2^(64-k)*(h%2^k):=by
  rw[pY b,ke h,gy]
 have g:(h*18446744073709551616+x)/2^k=h*2^(64-k)+x/2^k:=by
  rw[pY b,<-kh,lw,Nat.add_mul_div_right _ _ e,lw]
 have j:(h*2^(64-k)+x/2^k)%18446744073709551616=2^(64-k)*(h%2^k)+x/2^k:=by
  rw[Nat.add_mod,f,mt (a:=x/2^k) (lz (fv _ _) d),mt];have m:h%2^k+1<=2^k:=mf _ e;have l:=ns (2^(64-k)) m;rw[<-pY b,pp,nd]at l;omega
 have n:x/2^k||| 2^(64-k)*(h%2^k)=2^(64-k)*(h%2^k)+x/2^k:=by
  rw[Nat.or_comm];exact(ga c (h%2^k)).symm
 rw[i,fg _ _ (lz (fv _ _) d) (mf _ (by decide)),f,g,j,n]
def aIX(x k:Nat)(w:G)(f:x<18446744073709551616)(b:k<64):af ae 274 #[K #[O J 0,O J x],k] w λe w'=>
 e=ai (K #[O J (x*2^k/18446744073709551616:Nat),O J (x*2^k%18446744073709551616:Nat)])/\V w w w':=by
 have a:min (k:Int) 128=k:=by omega
 have d:=A (aLX f b);have c:=A (aIW x k);go_enter func274,ntmps274;go_wp2;refine bb (v:=K #[O J (x*2^k/18446744073709551616:Nat),O J (x*2^k%18446744073709551616:Nat)]) ?_ rfl ⟨rfl,((dk _ _).alloc (hU _) _).alloc (by simp) _⟩;simp only[ak,results274];rw[d.o];simp[go_sem,c.o]
def aCx(h x k:Nat)(w:G)(f:h<18446744073709551616)(g:x<18446744073709551616)(b:k<64):af ae 279 #[K #[O J h,O J x],k] w λe w'=>
 (∃c:Nat,e=ai (K #[O J c,O J ((h*18446744073709551616+x)/2^k%18446744073709551616:Nat)]))/\V w w w':=by
 have a:min (k:Int) 128=k:=by omega
 have d:=A (aLY f g b);go_enter func279,ntmps279;go_wp2;refine bb (v:=K #[O J (h/2^k:Nat),O J ((h*18446744073709551616+x)/2^k%18446744073709551616:Nat)]) ?_ rfl ⟨⟨_,rfl⟩,((dk _ _).alloc (hU _) _).alloc (by simp) _⟩;simp only[ak,results279];rw[d.o];simp[go_sem]
def tR(q:Nat)(r:List Nat):X (di q 0++r)=18446744073709551616^q*X r:=by
 have b:X (di q 0)=0:=by
  induction q with
  | zero=>rfl
  | succ q a=>simp[List.replicate_succ,X,a]
 rw[co,b,List.length_replicate,Nat.zero_add]
def nS(q:Nat):ar (di q 0):=λx a=>by rw[(List.mem_replicate.1 a).2];decide
def aIY(m:x<18446744073709551616)(h:s<64)(e:a<2^s):∃i hi:Nat,x*2^s/18446744073709551616=hi/\hi<2^s/\hi<18446744073709551616/\i<18446744073709551616/\
 cj dx J ((x*2^s%18446744073709551616:Nat):Int) (a:Int)=(i:Int)/\i+18446744073709551616*hi=x*2^s+a:=by
 have k:=kF s
 have l:2^s<18446744073709551616:=by
  have f:2^1<=2^(64-s):=ju (by decide) (by omega);have d:=ev (2^s) f;rw[<-pY h]at d;omega
 have c:x*2^s/18446744073709551616<2^s:=nm (jb m k)
 have j:x*2^s%18446744073709551616=2^s*(x%2^(64-s)):=by
  rw[pY h,ke x,ke (2^(64-s)),gy]
 have g:x*2^s%18446744073709551616||| a=x*2^s%18446744073709551616+a:=by
  rw[j];exact(ga e (x%2^(64-s))).symm
 have b:x*2^s%18446744073709551616+a<18446744073709551616:=by
  rw[j];have f:x%2^(64-s)+1<=2^(64-s):=mf _ (kF _);have d:=ns (2^s) f;rw[ke (2^s) (2^(64-s)),<-pY h,pp,nd]at d;omega
 refine⟨x*2^s%18446744073709551616+a,_,rfl,c,by omega,b,?_,by omega⟩;rw[fg _ _ (mf _ (by decide)) (by omega),g]
def aIZ{v D:Nat}(h:v+P*a=t*D)(c:b+18446744073709551616*hi=x*D+a):v+P*b+P*18446744073709551616*hi=(t+P*x)*D:=by
 rw[kh P,fo,<-pp,c,pp,lu,kh];omega
def aGz(a:Option bg)(kk c n k:Nat)(w:G)(h:Wds w (I a kk c) (S n))(i6:Y n+k<=8192):
 af ae 253 #[K #[I a kk c],k] w λe w'=>pB w (n*2^k) bw e w':=by
 have i7:max (k:Int) 0=k:=by omega
 have d:V w w ((w.alloc (U #[I a kk c] 381)).alloc (U #[()] 381)):=((dk _ _).alloc (hU _) _).alloc (by simp) _;by_cases hn:n=0
 .subst hn;rw[ej]at h
  have f:kk=0:=by
   rcases h.E3 with⟨P,_⟩|⟨g,cap,P,_⟩
   .injection P
   .injection P
  subst f;clear h;go_enter func253,ntmps253;go_wp2;exact bb (v:=ag #[K #[()],bw]) (by simp[ak,jc,go_sem]) rfl ⟨W,0,0,rfl,by rw[Nat.zero_mul,ej];exact Wds.nil _,d⟩
 .obtain⟨p,i8⟩:=gp hn;obtain⟨va,vc,P⟩:=bz h;injection P with h1 F h3;subst h1 F h3;have i9:(S n).length<=128:=fe (k:=128) (by omega);have g7:=A (wH a _ c n _ (h.A7 d) (by omega));have h7:=A h.E3;have f:X (S n)=n:=fd n;have h8:=dv n;clear h p;generalize h:S n=l at*;have h9:=A f;clear h f;obtain⟨q,s,f,H⟩:∃q s,k=64*q+s/\s<64:=⟨k/64,k%64,by omega,by omega⟩;have j3:(k:Int)/64=q:=by omega
  have j4:(k:Int)%64=s:=by omega
  have j5:k<=8192:=by omega
  have j6:¬(8192-(Y n:Int)<(k:Int)):=by omega
  have j7:q<=128:=by omega
  have i0:=A f;clear f;generalize f:Y n=bl at*;clear f;have j0:((l.length:Int)==0)=cr:=by rw[beq_eq_false_iff_ne];omega
  go_enter func253,ntmps253;go_wp2_with fail;refine(g7.o).mono ?_;rintro e w1 ⟨rfl,hb⟩;obtain⟨g1,f,i1,i2⟩:=after2 hb;have h:=Q g1;have G1:=A g1;have G2:=A f;clear g1 f d;go_wp2_with (at_make;refine rO (B:=w.heap.size+2) (enc:=kC) 0 aEx rfl _ _ rfl _ _ _ _ q (q+l.length+1) rfl rfl ?_ ?_ ?_ ?_ ?_ ?_ ?_)
  .simp
  .simp
  .omega
  .omega
  .unfold aw;omega
  .omega
  intro w2 f d;have j1:=Q (keep G1.o d);have j8:=A (keep G1.o d);have i3:=A (keep G2.o d);have L:=chain i1 d;have g8:w.heap.size+2<=w2.heap.size:=bo i2 d.size;have i4:=A f;clear f d h;go_wp2
  go_loopw [40,6,7,9,10] (λi o m _ _ wr=>∃(j z:Nat)(r:List Nat),j<=l.length/\i=O au j/\m=O J z/\z<2^s/\Row (w.heap.size+2) 30 kC wr o (di q 0++r)/\V (w.heap.size+2) w2 wr/\r.length=j/\ar r/\
   X r+18446744073709551616^j*z=X (l.take j)*2^s) (λi _ _ _ _ _=>l.length-(ah i).toNat)
  case atStart=>exact⟨0,0,[],dr _,rfl,rfl,kF s,by rw[List.append_nil];exact i4.o,dk _ _,rfl,(λx hx=>by cases hx),by simp[X]⟩
  case round=>
   obtain⟨j,z,r,hj,rfl,rfl,f,t,p,h,g9,d⟩:=hrel;have HV:=A d;have HR:=A h;have h0:=A f;clear d h f;have u:w.heap.size+2<=wr.heap.size:=bo g8 p.size;by_cases C:j<l.length
   .rcases h7.o with⟨_,hn⟩|⟨g,cap,P,hg,_,_,d⟩
    .subst hn;simp at C
    .injection P with h1 F h3;subst h1 h3;have hx:l.getD j 0<18446744073709551616:=h8 _ (by rw[bk,bf C];exact ph _);have g6:wr.cell? ⟨g,j,W⟩=Z (O J (l.getD j 0:Nat)):=(p.cell (by simp;omega)).trans ((L.cell hg).trans (d j C));clear d;have d:=gS C;generalize f:l.getD j 0=x at*;have HT:=A d;clear d f F;obtain⟨R,hi,h,d,-,j9,k0,f⟩:=aIY hx H h0.o;have h4:=A (aIX x s wr hx H);rw[h]at h4;generalize D:x*2^s%18446744073709551616=k1 at*;have HS:=A f;have i5:=A d;clear f h D d;go_wp2_with fail;refine(h4.o).mono ?_;rintro e wx ⟨rfl,D⟩;have h5:V (w.heap.size+2) w2 wx:=p.trans (D.mono u);have j2:w.heap.size+2<=wx.heap.size:=bo u D.size;have f:=((t.A7 D).A5 (U #[O J hi,O J R] 422)).A5 (U #[O J R] 30);have T:(di q 0++r).length<=300:=(by have:=HR.o;simp;omega);have N:=t.lt;clear t p g6;go_wp2_with (at_builtin;refine cV nP rfl _ _ rfl rfl f ⟨wx.heap.size+1,0,W⟩ 1 R rfl ?_ rfl ?_ ?_ ?_ ?_)
     .simp
     .omega
     .unfold aw;omega
     .simp;omega
     intro b cap w3 h d;have F:V (w.heap.size+2) w2 w3:=((h5.alloc (by omega) (U #[O J hi,O J R] 422)).alloc (by simp;omega) (U #[O J R] 30)).grown d (by simp;omega) (λk hk=>(f.lt k hk).1)
     have h6:w3.heap[wx.heap.size]?=Z (U #[O J hi,O J R] 422 (0,0)):=by
      rw[d.block _ (by simp;omega) (λe=>by have:=(N _ e.symm).2;have:=D.size;omega)];exact(de _ _ _ (by simp)).trans (aL wx _)
     have k2:w3.cell? wx=Z (O J hi):=(by rw[aA h6];rfl);have g6:=A h;clear h d f h6 N;go_wp2;go_roundw
     case rel=>
      refine⟨j+1,hi,r++ [R],by omega,by go_num,rfl,i5.o,?_,F,by simp[HR.o],cz.2 ⟨g9,λy hy=>by simp at hy;omega⟩,?_⟩
      .exact g6.o
      .rw[HT.o,co,HR.o,jx];simp only[X,ek,lv];exact aIZ HV.o HS.o
     case measure=>simp[ah];omega
   .have N:j=l.length:=by omega
    have R:z<18446744073709551616:=a7 h0.o (by
     have:=ju (n:=2) (by decide) (by omega:s<=64);omega)
    have D:X (di q 0++(r++ [z]))=n*2^k:=by
     have h1:=HV.o;rw[N,pd,h9.o]at h1;rw[tR,co,HR.o,N];simp only[X,ek,lv];rw[h1,i0.o,dt,ld];exact dw _ _ _
    have HF:=A D;have T:(di q 0++r).length<=300:=(by have:=HR.o;simp;omega);clear D N;have f:=t.A5 (U #[O J z] 30);have D:V (w.heap.size+2) w2 (wr.alloc (U #[O J z] 30)):=p.alloc u _;clear t;go_wp2_with (at_builtin;refine cV nP rfl _ _ rfl rfl f ⟨wr.heap.size,0,W⟩ 1 z rfl ?_ rfl ?_ ?_ ?_ ?_)
    .simp
    .omega
    .unfold aw;omega
    .simp;omega
    intro b cap w3 h d;have F:V (w.heap.size+2) w2 w3:=D.grown d (by simp;omega) (λk hk=>(f.lt k hk).1);have g6:=A h;clear h d f;have g4:=(F.block _ (by omega)).trans i3.o;have f:V w w w3:=L.trans (F.mono (by omega));go_wp2_with fail;refine(jW _ (di q 0++(r++ [z])) _ (cz.2 ⟨nS q,cz.2 ⟨g9,λy hy=>by simp at hy;omega⟩⟩) (g6.o.I3 (dr _))).mono ?_;rintro e w4 ⟨a3,k3,c3,rfl,h,d⟩;rw[HF.o]at h;have t:=keep g4 d;have N:=Q t;have h5:=bp t;have h4:=chain f d;have HM:=A h;clear h g4 p;go_wp2;exact bb (v:=ag #[K #[I a3 k3 c3],bw]) (by simp[ak,jc,go_sem,N]) rfl ⟨a3,k3,c3,rfl,HM.o.E0 t (by decide) _ _,h4.setCell (by simp) _⟩
def iS(q s j:Nat):Nat:=if j<=q then 18446744073709551616^j else 18446744073709551616^q*2^s
def aKU(h:j<q):(n%iS q s (j+1)!=0)=((n%iS q s j !=0)||(n/18446744073709551616^j%18446744073709551616 !=0)):=by
 unfold iS;rw[pz,pz,nR,fa];simp only[bne_iff_ne,jd,ne_eq,je,jf];have:¬18446744073709551616^j=0:=pm (mF (by decide));by_cases a:n%18446744073709551616^j=0<;>simp[a,this]
def aKV(b:s<64):(n%iS q s (q+1)!=0)=((n%iS q s q !=0)||(n/18446744073709551616^q%18446744073709551616%2^s !=0)):=by
 unfold iS;rw[py,pz,ji,Nat.mod_mod_of_dvd _ ⟨2^(64-s),by rw[ke];exact pY b⟩,fa];simp only[bne_iff_ne,jd,ne_eq,je,jf];have:¬18446744073709551616^q=0:=pm (mF (by decide));by_cases a:n%18446744073709551616^q=0<;>simp[a,this]
def aKW(h:q<j):(n%iS q s (j+1)!=0)=(n%iS q s j !=0):=by
 unfold iS;rw[py,py]
def aCy(g:s<64)(i:k=64*q+s)(l:q<=j):
 (n/18446744073709551616^(j+1)%18446744073709551616*18446744073709551616+n/18446744073709551616^j%18446744073709551616)/2^s%18446744073709551616=n/2^k/18446744073709551616^(j-q)%18446744073709551616:=by
 have d:n/2^k/18446744073709551616^(j-q)=n/18446744073709551616^j/2^s:=by
  rw[nh,nh,dt,dt,<-ld,<-ld];congr 2;omega
 rw[d,jx,<-nh];generalize n/18446744073709551616^j=m;have c:=kF s
 have h:m/18446744073709551616%18446744073709551616*18446744073709551616+m%18446744073709551616=m%(18446744073709551616*18446744073709551616):=by
  rw[ji,ke,lw]
 rw[h];have e:=ox m (18446744073709551616*18446744073709551616);generalize m%(18446744073709551616*18446744073709551616)=r at*;generalize m/(18446744073709551616*18446744073709551616)=t at*;rw[<-e]
 have f:18446744073709551616*18446744073709551616*t+r=r+2^s*(18446744073709551616*(2^(64-s)*t)):=by
  have:18446744073709551616*18446744073709551616*t=2^s*(18446744073709551616*(2^(64-s)*t)):=by
   have a:=pY g;generalize 18446744073709551616=b at*;rw[a];simp only[kh,dw,ke]
  omega
 rw[f,Nat.add_mul_div_left _ _ c,Nat.add_mul_mod_self_left]
def aI0(b:x<18446744073709551616)(c:s<64):cj fu J (x:Int) ((2^s-1:Nat):Int)=((x%2^s:Nat):Int):=by
 have a:2^s<=2^63:=ju (by decide) (by omega);rw[bits_and_u64_nat _ _ b (by omega),Nat.and_two_pow_sub_one_eq_mod]
def aI1(e:s<64):J.wrap (J.wrap (2^s)-1)=((2^s-1:Nat):Int):=by
 have c:2^s<=2^63:=ju (by decide) (by omega);have d:=kF s;have b:(2:Int)^s=((2^s:Nat):Int):=by simp
 rw[b];generalize 2^s=y at*;have a:J.wrap (y:Int)=(y:Int):=by rw[em];omega
 rw[a,em];omega
def aKX{L:Nat}(c:k=64*q+s)(a:n<18446744073709551616^L):n/2^k%18446744073709551616^(L-q)=n/2^k/\(n%iS q s L !=0)=(n%2^k !=0):=by
 have e:2^k=18446744073709551616^q*2^s:=by rw[c,ld,dt]
 have b:18446744073709551616^q<=2^k:=by rw[e];exact Nat.le_mul_of_pos_right _ (kF s)
 refine⟨mt (nm (a7 a ?_)),?_⟩
 .refine bo ?_ (ev _ b);rw[<-ld];exact ju (by decide) (by omega)
 .unfold iS;split
  .rename_i h;have:18446744073709551616^L<=2^k:=bo (ju (by decide) h) b;rw[mt a,mt (a7 a this)]
  .rw[e]
def aKY(w:G)(n:Nat)(b:Bool)(e:ei)(w':G):Prop:=∃a k c,e=ai (ag #[K #[I a k c],b])/\Wds w' (I a k c) (S n)/\V w w w'
def aI2(a b:Int)(w:G):(Instr.field 422 (K #[O J a,O J b]) 1).run ae w=.ok (O J b) w:=by kernel_rfl
def wI(a:Option bg)(kk c n k:Nat)(w:G)(l:Wds w (I a kk c) (S n))(hl:(S n).length<=4294967295)(j8:k<=4294967295):
 af ae 255 #[K #[I a kk c],k] w λe w'=>aKY w (n/2^k) (n%2^k !=0) e w':=by
 have j6:max (k:Int) 0=k:=by omega
 have j0:V w w ((w.alloc (U #[I a kk c] 381)).alloc (U #[()] 381)):=((dk _ _).alloc (hU _) _).alloc (by simp) _;obtain⟨va,vc,he⟩:=bz l;injection he with h1 h p;subst h1 h p;have j1:=A l.E3;have f:=ee (n:=n) (hU _);have j2:=A f;have d:∀i,(S n).getD i 0=n/18446744073709551616^i%18446744073709551616:=eu n;have i7:=A d;have HW:M (∀wx,V w w wx->Wds wx (I a (S n).length c) (S n)):=λwx hx=>l.A7 hx;clear l f d;obtain⟨q,s,d,u⟩:∃q s,k=64*q+s/\s<64:=⟨k/64,k%64,by omega,by omega⟩;have j7:=aI2;have j9:(k:Int)/64=q:=by omega
 have i8:(k:Int)%64=s:=by omega
 have h4:=A d;clear d;generalize d:(S n).length=a0 at*;have HL:=A d;clear d;have d:w.heap.size+2=((w.alloc (U #[I a a0 c] 381)).alloc (U #[()] 381)).heap.size:=by simp
 have k0:=A d;clear d;go_enter func255,ntmps255;go_wp2
 go_loopw [15,6,7,8,9] (λi b o _ _ wr=>∃(j:Nat)(r:List Nat),j<=a0/\i=O au j/\b=cg (n%iS q s j !=0)/\Row (w.heap.size+2) 30 kC wr o r/\r.length=j-q/\ar r/\X r=n/2^k%18446744073709551616^(j-q)/\
  V w w wr/\wr.heap[w.heap.size]?=Z (U #[I a a0 c] 381 (0,0))/\wr.heap[w.heap.size+1]?=Z (U #[()] 381 (0,0))) (λi _ _ _ _ _=>a0-(ah i).toNat)
 case atStart=>exact⟨0,[],dr _,rfl,by simp[iS,jj],fm _ _ _ _,by simp,(λx hx=>by cases hx),by simp[X,jj],j0,(de _ _ _ (by simp)).trans (aL w _),by simpa using aL (w.alloc (U #[I a a0 c] 381)) (U #[()] 381)⟩
 case round=>
  obtain⟨j,r,hj,rfl,rfl,l,t,h0,d,f,g1,B⟩:=hrel;have h5:=Q g1;have G1:=A g1;have G2:=A B;have HV:=A d;have HR:=A t;clear g1 B d t;by_cases j3:j<a0
  .rcases j1.o with⟨_,hn⟩|⟨g,cap,he,hg,_,_,d⟩
   .have:=HL.o;rw[hn]at this;simp at this;omega
   .injection he with h1 h p;have h6:wr.cell? ⟨g,j,W⟩=Z (O J ((S n).getD j 0:Nat)):=(f.cell (by simpa using hg)).trans (d j j3);subst h1;rw[i7.o]at h6;have h7:n/18446744073709551616^j%18446744073709551616<18446744073709551616:=mf _ (by decide);clear d h p;generalize d:n/18446744073709551616^j%18446744073709551616=x at*;have HX:=A d;clear d;obtain⟨b0,d⟩:∃b0,(n%iS q s j !=0)=b0:=⟨_,rfl⟩;have h8:=A d;rw[d];clear d;rcases oh j q with R|R|R
    .have t:=aKU (n:=n) (s:=s) R;rw[h8.o,HX.o]at t;have g6:j+1-q=j-q:=(by omega);have d:((x:Int)!=0)=(x !=0):=(by rw[fa];simp);have HG:=A t;have h:=A g6;have HN:=A d;clear t g6 d;cases b0
     all_goals
      go_wp2;go_roundw
      case rel=>
       refine⟨j+1,r,by omega,by go_num,?_,l,by rw[h.o];exact HR.o,h0,by rw[h.o];exact HV.o,f,G1.o,G2.o⟩;rw[HG.o];first|rfl|(rw[HN.o];rfl)
      case measure=>simp[ah];omega
    .obtain rfl:j=q:=R;obtain⟨y,T⟩:∃y,n/18446744073709551616^(j+1)%18446744073709551616=y:=⟨_,rfl⟩;have h9:y<18446744073709551616:=T▸mf _ (by decide);have L:=rR (Z ⟨g,0,W⟩) a0 c n y (j+1) wr (HW.o wr f) (by omega) T;rw[show((j+1:Nat):Int)=(j:Int)+1 from by omega]at L;have i0:=A L;have D:=aCy (n:=n) u h4.o (hU _);rw[T,HX.o]at D;obtain⟨z,hz⟩:∃z,(y*18446744073709551616+x)/2^s%18446744073709551616=z:=⟨_,rfl⟩;have j4:z<18446744073709551616:=hz▸mf _ (by decide);rw[hz]at D;have HZ:=A hz;have i1:=A D;have t:=aKV (n:=n) (q:=j) u;rw[HX.o,h8.o]at t;obtain⟨m,hm⟩:∃m,x%2^s=m:=⟨_,rfl⟩;have j5:cj fu J (x:Int) (J.wrap (J.wrap (2^s)-1))=(m:Int):=(by rw[aI1 u,aI0 h7 u,hm]);rw[hm]at t;have d:((m:Int)!=0)=(m !=0):=(by rw[fa];simp);have HG:=A t;have HN:=A d;clear t d T hz D hm L;cases b0
     all_goals
      go_wp2_with fail;refine(i0.o).mono ?_;rintro e wx ⟨rfl,N⟩;go_wp2_with fail;(try simp only[i8]);refine(aCx y x s _ h9 h7 u).mono ?_;rintro e wy ⟨⟨h',rfl⟩,g7⟩;have d:=N.trans (g7.mono N.size);have h:=(l.A7 d).A5 (U #[O J ((y*18446744073709551616+x)/2^s%18446744073709551616:Nat)] 30);have B:=chain f d;have g8:=keep G1.o d;have P:=keep G2.o d;have i9:w.heap.size+2<=wy.heap.size:=dm P;have i2:=A g8;have i3:=A P;have H:=(l.A7 d).lt;rw[HZ.o]at h⊢;clear l f N g7 d g8 P h6 h5
      go_wp2_with (at_builtin;refine cV nP rfl _ _ rfl rfl h ⟨wy.heap.size,0,W⟩ 1 z rfl ?_ rfl ?_ ?_ ?_ ?_)
      .simp
      .have:=HR.o;omega
      .have:=HR.o;unfold aw;omega
      .simp;omega
      intro b cap w3 C p;have F:V (w.heap.size+2) wy w3:=((dk _ _).alloc (by omega) _).grown p (by simp;omega) (λk hk=>(H k hk).1);have i4:=A C;have i5:=A ((F.block _ (by omega)).trans i2.o);have i6:=A ((F.block _ (by omega)).trans i3.o);have g9:V w w w3:=B.trans (F.mono (by omega));clear C p h H F B;go_wp2;go_roundw
      case rel=>
       refine⟨j+1,r++ [z],by omega,by go_num,?_,i4.o,by first|(simp[HR.o];done)|(simp[HR.o];omega),cz.2 ⟨h0,λy T=>by simp at T;omega⟩,?_,g9,i5.o,i6.o⟩
       .rw[HG.o];first|rfl|(rw[HN.o];rfl)
       .have e:j+1-j=(j-j)+1:=(by omega);rw[e,nR,co,HR.o,HV.o,i1.o];simp[X]
      case measure=>simp[ah];omega
    .obtain⟨y,T⟩:∃y,n/18446744073709551616^(j+1)%18446744073709551616=y:=⟨_,rfl⟩;have h9:y<18446744073709551616:=T▸mf _ (by decide);have L:=rR (Z ⟨g,0,W⟩) a0 c n y (j+1) wr (HW.o wr f) (by omega) T;rw[show((j+1:Nat):Int)=(j:Int)+1 from by omega]at L;have i0:=A L;have D:=aCy (n:=n) u h4.o (iF R);rw[T,HX.o]at D;obtain⟨z,hz⟩:∃z,(y*18446744073709551616+x)/2^s%18446744073709551616=z:=⟨_,rfl⟩;have j4:z<18446744073709551616:=hz▸mf _ (by decide);rw[hz]at D;have HZ:=A hz;have i1:=A D;have t:=aKW (n:=n) (s:=s) R;rw[h8.o]at t;have g6:((j:Int)==(q:Int))=cr:=(by rw[beq_eq_false_iff_ne];omega);have HG:=A t;clear t T hz D L;cases b0
     all_goals
      go_wp2_with fail;refine(i0.o).mono ?_;rintro e wx ⟨rfl,N⟩;go_wp2_with fail;(try simp only[i8]);refine(aCx y x s _ h9 h7 u).mono ?_;rintro e wy ⟨⟨h',rfl⟩,g7⟩;have d:=N.trans (g7.mono N.size);have h:=(l.A7 d).A5 (U #[O J ((y*18446744073709551616+x)/2^s%18446744073709551616:Nat)] 30);have B:=chain f d;have g8:=keep G1.o d;have P:=keep G2.o d;have i9:w.heap.size+2<=wy.heap.size:=dm P;have i2:=A g8;have i3:=A P;have H:=(l.A7 d).lt;rw[HZ.o]at h⊢;clear l f N g7 d g8 P h6 h5
      go_wp2_with (at_builtin;refine cV nP rfl _ _ rfl rfl h ⟨wy.heap.size,0,W⟩ 1 z rfl ?_ rfl ?_ ?_ ?_ ?_)
      .simp
      .have:=HR.o;omega
      .have:=HR.o;unfold aw;omega
      .simp;omega
      intro b cap w3 C p;have F:V (w.heap.size+2) wy w3:=((dk _ _).alloc (by omega) _).grown p (by simp;omega) (λk hk=>(H k hk).1);have i4:=A C;have i5:=A ((F.block _ (by omega)).trans i2.o);have i6:=A ((F.block _ (by omega)).trans i3.o);have g9:V w w w3:=B.trans (F.mono (by omega));clear C p h H F B;go_wp2;go_roundw
      case rel=>
       refine⟨j+1,r++ [z],by omega,by go_num,?_,i4.o,by first|(simp[HR.o];done)|(simp[HR.o];omega),cz.2 ⟨h0,λy T=>by simp at T;omega⟩,?_,g9,i5.o,i6.o⟩
       .rw[HG.o]
       .have e:j+1-q=(j-q)+1:=(by omega);rw[e,nR,co,HR.o,HV.o,i1.o];simp[X]
      case measure=>simp[ah];omega
  .have t:j=a0:=(by omega);subst t;have d:=aKX (n:=n) h4.o j2.o;have B:X r=n/2^k:=(by rw[HV.o];exact d.1);have H:=A B;have L:=A d.2;clear d B;go_wp2_with fail;refine(jW _ r _ h0 (l.I3 (dr _))).mono ?_;rintro e R ⟨a3,D,F,rfl,hm,d⟩;rw[H.o]at hm;have B:=keep G2.o d;have C:=Q B;have N:=bp B;have g9:=chain f d;have P:=A hm;clear hm f l h5;go_wp2;refine bb (v:=ag #[K #[I a3 D F],cg (n%2^k !=0)]) ?_ rfl ⟨a3,D,F,rfl,P.o.E0 B (by decide) _ _,g9.setCell (by simp) _⟩;rw[<-L.o];simp[ak,results255,go_sem,C]
def aBr{p:Nat}(a:p<l.length)(y:Nat):X (l.set p y)+18446744073709551616^p*l.getD p 0=X l+18446744073709551616^p*y:=by
 induction l generalizing p with
 | nil=>simp at a
 | cons x l b=>
  cases p with
  | zero=>simp[X];omega
  | succ p=>
   have:=b (p:=p) (by simpa using a);simp only[List.set_cons_succ,X,jx];have e:(x::l).getD (p+1) 0=l.getD p 0:=(by simp[bk]);rw[e];have d:18446744073709551616^p*18446744073709551616*l.getD p 0=18446744073709551616*(18446744073709551616^p*l.getD p 0):=(by rw[ke (18446744073709551616^p),kh]);have c:18446744073709551616^p*18446744073709551616*y=18446744073709551616*(18446744073709551616^p*y):=(by rw[ke (18446744073709551616^p),kh]);rw[d,c];omega
def tS(h:ar l)(p:Nat){y:Nat}(b:y<18446744073709551616):ar (l.set p y):=λx c=>by
 rcases List.mem_or_eq_of_mem_set c with a|a
 .exact h x a
 .subst a;exact b
def aI3{o c1 c2:Nat}(l:x<18446744073709551616)(g:y<18446744073709551616)(f:o<18446744073709551616)(e:a<18446744073709551616)(j:d+18446744073709551616*hi=x*y)(h:c+18446744073709551616*c1=d+o)(k:b+18446744073709551616*c2=c+a):
 b+18446744073709551616*(hi+c1+c2)=x*y+o+a/\hi+c1+c2<18446744073709551616:=by
 have i:x*y<=18446744073709551615*18446744073709551615:=io (by omega) (by omega);omega
def aI4{v o:Nat}(f:d+P*o=v+P*c)(h:v+P*b=R)(g:c+18446744073709551616*a=x*y+o+b):d+P*18446744073709551616*a=R+P*(x*y):=by
 have e:P*c+P*(18446744073709551616*a)=P*(x*y)+P*o+P*b:=by rw[<-pp,g,pp,pp]
 rw[kh P];omega
def aI5(j k x q y:Nat):18446744073709551616^j*(x*(q+18446744073709551616^k*y))=18446744073709551616^j*(x*q)+18446744073709551616^(j+k)*(x*y):=by
 rw[pp,pp,ld,dw x,kh]
def getD_lt(h:ar l)(i:Nat):l.getD i 0<18446744073709551616:=by
 rw[bk];cases a:l[i]? with
 | none=>decide
 | some x=>exact h x (List.mem_of_getElem? a)
def lX{i:Nat}(h:i<l.length):l[i]?=Z (l.getD i 0):=by rw[bk,bf h];rfl
def aKZ(a a':Option bg)(k k' c c' n m:Nat)(w:G)(d:Wds w (I a k c) (S n))(b:Wds w (I a' k' c') (S m))(hl:(S n).length<=1048576)(l5:(S m).length<=1048576):
 af ae 232 #[K #[I a k c],K #[I a' k' c']] w λe w'=>pB w (aIT (n*m)) (aEy (n*m)) e w':=by
 obtain⟨va,vc,he⟩:=bz d;injection he with L u H;subst L u H;obtain⟨l6,l7,he⟩:=bz b;injection he with L u H;subst L u H;have j1:=A d.E3;have i4:=A b.E3;clear d b;have j2:=dv n;have i5:=dv m;have b:=fd n;have f:=fd m;generalize q:S n=l at*;generalize h:S m=d at*;have j3:=A b;have j4:=A f;clear q h b f;have h:V w w (((w.alloc (U #[I a l.length c] 381)).alloc (U #[I a' d.length c'] 381)).alloc (U #[()] 381)):=(((dk _ _).alloc (hU _) _).alloc (by simp) _).alloc (by simp;omega) _;have b:V (((w.alloc (U #[I a l.length c] 381)).alloc (U #[I a' d.length c'] 381)).alloc (U #[()] 381)).heap.size (((w.alloc (U #[I a l.length c] 381)).alloc (U #[I a' d.length c'] 381)).alloc (U #[()] 381)) (((w.alloc (U #[I a l.length c] 381)).alloc (U #[I a' d.length c'] 381)).alloc (U #[()] 381)):=dk _ _;obtain⟨g1,f,q,_,_⟩:=tQ b;have G1:=A g1;have G2:=A f;have G3:=A q;clear g1 f q b;obtain⟨N,q⟩:∃N,l.length+d.length+1=N:=⟨_,rfl⟩;have l8:((l.length:Int)+(d.length:Int)+1)=(N:Int):=by omega
 go_enter func232,ntmps232;go_wp2_with (at_make;refine rO (B:=w.heap.size+3) (enc:=kC) 0 aEx rfl _ _ rfl _ _ _ _ N N rfl rfl ?_ ?_ ?_ ?_ ?_ ?_ ?_)
 .first|rfl|omega
 .first|rfl|omega
 .omega
 .omega
 .unfold aw;omega
 .simp
 intro w1 f b;have l0:w.heap.size+3<=w1.heap.size:=by have:=b.size;simp at this;omega
 have h4:V w w w1:=h.trans (b.mono (by omega));have j5:=A ((b.block _ (by omega)).trans G1.o);have i6:=A ((b.block _ (by omega)).trans G2.o);have j6:=A ((b.block _ (by omega)).trans G3.o);have HN:=A q;have i7:=A f;have l9:=Q j5.o;clear h b f q;obtain⟨a0,b⟩:∃a0,w.heap.size+1+1+1=a0:=⟨_,rfl⟩;have h6:w.heap.size+3<=a0:=by omega
 simp only[b]at i7⊢;clear b;go_wp2
 go_loopw [27] (λi wr=>∃(j:Nat)(r:List Nat),j<=l.length/\i=O au j/\Row (w.heap.size+3) 30 kC wr (I (Z ⟨a0,0,W⟩) N N) r/\r.length=N/\ar r/\X r=X (l.take j)*m/\
  (∀p,j+d.length<=p->r.getD p 0=0)/\V (w.heap.size+3) w1 wr) (λi _=>l.length-(ah i).toNat)
 case atStart=>exact⟨0,di N 0,dr _,rfl,i7.o.I3 h6,by simp,nS N,by have:=tR N [];simp[X]at this;simp[X,this],(λp _=>by simp[bk,List.getElem?_replicate];split<;>rfl),dk _ _⟩
 case round=>
  obtain⟨j,r,hj,rfl,D,b,h7,h,q,f⟩:=hrel;obtain⟨wo,rfl⟩:∃wo:G,wo=wr:=⟨_,rfl⟩;have HV:=A h;have HZ:=A q;have R:=A b;clear h q b;have h8:=Q ((f.block _ (by omega)).trans i6.o);by_cases h9:j<l.length
  .rcases j1.o with⟨_,hn⟩|⟨g,cap,he,hg,_,_,b⟩
   .subst hn;simp at h9
   .injection he with L u H;have hx:=getD_lt j2 j;have T:wo.cell? ⟨g,j,W⟩=Z (O J (l.getD j 0:Nat)):=(f.cell (by simp;omega)).trans ((h4.cell hg).trans (b j h9));subst L;clear b u H;have b:=gS h9;generalize h:l.getD j 0=x at*;have HT:=A b;clear b h;go_wp2
    go_loopw [35,9] (λi mo wr=>∃(k P:Nat)(t:List Nat),k<=d.length/\i=O au k/\mo=O J P/\P<18446744073709551616/\Row (w.heap.size+3) 30 kC wr (I (Z ⟨a0,0,W⟩) N N) t/\t.length=N/\ar t/\
     X t+18446744073709551616^(j+k)*P=X (l.take j)*m+18446744073709551616^j*(x*X (d.take k))/\(∀p,j+d.length<=p->t.getD p 0=0)/\V (w.heap.size+3) w1 wr) (λi _ _=>d.length-(ah i).toNat)
    case atStart=>exact⟨0,0,r,dr _,rfl,rfl,by decide,D,R.o,h7,by simp[X,HV.o],HZ.o,f⟩
    case round=>
     obtain⟨k,P,t,hk,rfl,rfl,i0,b,z,F,h,q,s⟩:=hrel;have i8:=A h;have i1:=A q;have C:=A z;clear h q D f h8 T;by_cases i2:k<d.length
     .rcases i4.o with⟨_,hn⟩|⟨g',l1,j7,j8,_,_,h⟩
      .subst hn;simp at i2
      .injection j7 with L u H;have hy:=getD_lt i5 k;have l2:wr.cell? ⟨g',k,W⟩=Z (O J (d.getD k 0:Nat)):=(s.cell (by simp;omega)).trans ((h4.cell j8).trans (h k i2));subst L;clear h u H;have q:=gS i2;have ho:=getD_lt F (j+k);have u:j+k<t.length:=(by have:=HN.o;omega);have j9:wr.cell? ⟨a0,j+k,W⟩=Z (O J (t.getD (j+k) 0:Nat)):=b.B6 (lX u);have h:=λy=>aBr (l:=t) u y;generalize H:d.getD k 0=y at*;generalize T:t.getD (j+k) 0=o at*;have k0:=A q;have i9:=A h;have m1:j+k<N:=(by have:=HN.o;omega);have i3:=b.K6 (j+k);clear q h H T u z;go_wp2_with fail;refine(pX x y hx hy _).mono ?_;rintro e w' ⟨hi,lo,rfl,rfl,T,k1,m2⟩;obtain⟨s1,c1,q,k2,l3,k5⟩:=mR lo o k1 ho;obtain⟨s2,c2,H,k6,l4,k7⟩:=mR s1 P k2 i0;obtain⟨j0,k8⟩:=aI3 hx hy ho i0 T q H;have k9:=A j0;clear T q H j0;go_wp2;go_roundw
       case rel=>
        have H:=b.N8 (i:=j+k) (by rw[C.o];omega) s2;refine⟨k+1,hi+c1+c2,t.set (j+k) s2,by omega,by go_num,by go_num,k8,H,by simp[C.o],tS F _ k6,?_,?_,s.setCell (by simpa using h6) _⟩
        .rw[k0.o,aI5,show j+(k+1)=j+k+1 from rfl,jx,<-fo];exact aI4 (i9.o s2) i8.o k9.o
        .intro p hp;rw[bk,jl (by omega)];exact i1.o p hp
       case measure=>simp[ah];omega
     .have T:k=d.length:=(by omega);have u:j+d.length<t.length:=(by have:=HN.o;omega);have h:=aBr (l:=t) u P;rw[i1.o _ (hU _),ek,lv]at h
      have q:X (t.set (j+d.length) P)=X (l.take (j+1))*m:=by
       have L:=i8.o;rw[T,pd,j4.o]at L;rw[h,L,HT.o,lu,kh]
      have HF:=A q;have h8:=Q ((s.block _ (by omega)).trans i6.o);have i3:=b.K6 (j+d.length);have j9:wr.cell? ⟨a0,j+d.length,W⟩=Z (O J (t.getD (j+d.length) 0:Nat)):=b.B6 (lX u);have H:=b.N8 (i:=j+d.length) u P;have L:=tS F (j+d.length) i0
      have i9:∀p,j+1+d.length<=p->(t.set (j+d.length) P).getD p 0=0:=λp hp=>by
       rw[bk,jl (by omega)];exact i1.o p (by omega)
      have j0:=A H;have j7:=A i9;generalize t.getD (j+d.length) 0=o at*;clear h q T u H i9 z;go_wp2;go_roundw
      case rel=>exact⟨j+1,t.set (j+d.length) P,by omega,by go_num,j0.o,by simp[C.o],L,HF.o,j7.o,s.setCell (by simpa using h6) _⟩
      case measure=>simp[ah];omega
  .have h:j=l.length:=(by omega);have q:X r=n*m:=(by rw[HV.o,h,pd,j3.o]);have HF:=A q
   have b:(S (n*m)).length<=4294967296:=by
    have s:=gv h7;rw[q]at s;have:=gw s;have:=R.o;have:=HN.o;omega
   have s:V w w wo:=h4.trans (f.mono (by omega));have P:=(f.block _ (by omega)).trans j6.o;clear q h;go_wp2_with fail;refine(jW _ r _ h7 (D.I3 (dr _))).mono ?_;rintro e w3 ⟨a3,k3,c3,rfl,z,h⟩;rw[HF.o]at z;go_wp2_with fail;refine(nQ a3 k3 c3 (n*m) _ z b).mono ?_;rintro e w4 ⟨a4,T,c4,rfl,q,t⟩;have C:=keep (keep P h) t;have F:=Q C;have i0:=bp C;have L:=chain (chain s h) t;have HM:=A q;clear z q P f D h8;go_wp2;exact bb (v:=ag #[K #[I a4 T c4],aEy (n*m)]) (by simp[ak,results232,go_sem,F]) rfl ⟨a4,T,c4,rfl,HM.o.E0 C (by decide) _ _,L.setCell (by simp;omega) _⟩
def aK0(n i:Nat):n/2^i=2*(n/2^(i+1))+(n.testBit i).toNat:=by
 rw[jx,<-nh,ew];generalize n/2^i=N;by_cases h:N%2=1<;>simp[h]<;>omega
def aHb(q j:Nat):q*2^(j+1)=2*q*2^j:=by rw[jx,ke (2^j) 2,<-kh,ke q 2]
def aK1(c:0<m)(a:N%m=R)(h:2*R+b<m):(2*N+b)%m=2*R+b/\(2*N+b)/m=2*(N/m):=by
 have e:=ox N m;have d:2*N+b=m*(2*(N/m))+(2*R+b):=by rw[<-a];rw[<-a]at h;have:m*(2*(N/m))=2*(m*(N/m)):=dw _ _ _;omega
 rw[d];exact⟨by rw[jm,mt h],by rw[jn c,oo h,lv]⟩
def aI6(c:0<m)(f:N%m=R)(i:b<=1)(h:m<=2*R+b):(2*N+b)%m=2*R+b-m/\(2*N+b)/m=2*(N/m)+1:=by
 have e:=ox N m;have d:R<m:=f▸mf N c;have g:2*N+b=m*(2*(N/m)+1)+(2*R+b-m):=by rw[pp,nd];have:m*(2*(N/m))=2*(m*(N/m)):=dw _ _ _;omega
 have a:2*R+b-m<m:=by omega
 rw[g];exact⟨by rw[jm,mt a],by rw[jn c,oo a,lv]⟩
def aI7(h:ar l)(i:Nat):l.getD i 0=X l/18446744073709551616^i%18446744073709551616:=by
 induction l generalizing i with
 | nil=>simp[X]
 | cons x l a=>
  obtain⟨c,b⟩:=Lim.small_cons.1 h;cases i with
  | zero=>simp[X];omega
  | succ i=>
   have e:(x::l).getD (i+1) 0=l.getD i 0:=(by simp[bk]);rw[e,a b,X,jx,ke (18446744073709551616^i),<-nh];congr 2;omega
def aK2{i:Nat}(h:ar l)(hi:i=64*q+r)(p:r<64)(g:q<l.length)(f:X l=s*2^(i+1)):
 ∃y:Nat,cj dx J (l.getD q 0:Nat) ((2^r:Nat):Int)=(y:Int)/\y<18446744073709551616/\X (l.set q y)=(2*s+1)*2^i:=by
 have d:2^r<18446744073709551616:=by have:=ju (n:=2) (by decide) (by omega:r<=63);omega
 have k:=aI7 h q
 have m:X l/18446744073709551616^q=s*2^(r+1):=by
  rw[f,dt,hi,show 64*q+r+1=64*q+(r+1)from rfl,ld,dw,Nat.mul_div_cancel_left _ (kF _)]
 have j:l.getD q 0=2^(r+1)*(s%2^(64-(r+1))):=by
  rw[k,m,show(18446744073709551616:Nat)=2^(r+1)*2^(64-(r+1)) by rw[<-ld,show r+1+(64-(r+1))=64 by omega],ke s,gy]
 have b:l.getD q 0||| 2^r=l.getD q 0+2^r:=by
  rw[j];exact(ga (Nat.pow_lt_pow_right (by decide) (by omega)) _).symm
 have a:=getD_lt h q
 have c:l.getD q 0+2^r<18446744073709551616:=by
  rw[<-b];exact Nat.or_lt_two_pow (n:=64) a d
 refine⟨l.getD q 0+2^r,?_,c,?_⟩
 .rw[fg _ _ a d,b]
 .have e:=aBr g (l.getD q 0+2^r);rw[pp]at e;have o:18446744073709551616^q*2^r=2^i:=by rw[dt,<-ld,hi]
  rw[o]at e;have:X (l.set q (l.getD q 0+2^r))=X l+2^i:=by omega
  rw[this,f,jx,lu,Nat.one_mul,ke (2^i) 2,<-kh,ke s 2]
def aI8(h:r<64):J.wrap (2^r)=((2^r:Nat):Int):=by
 have a:=ju (n:=2) (by decide) (by omega:r<=63);rw[show((2:Int)^r)=((2^r:Nat):Int) by simp];generalize 2^r=x at*;show jr J (x:Int)=x;rw[em];omega
def Row.U0{d:Type}{B e:Nat}{enc:d->ao}{l:List d}(h:Row B e enc w v l){b:Nat}(c:b<B)(o:Nat)(u:ao):Row B e enc (w.setCell ⟨b,o,W⟩ u) v l:=
 ownsRow_setCell_other h (λa=>by have:=(Row.lt h _ a).1;simp at this;omega) u
def aK3(w:G)(n m:Nat)(e:ei)(w':G):Prop:=∃a k c b f d,e=ai (ag #[K #[I a k c],K #[I b f d],bw])/\Wds w' (I a k c) (S n)/\Wds w' (I b f d) (S m)/\V w w w'
def aGA(a a':Option bg)(k k' c c' n m:Nat)(w:G)(h:Wds w (I a k c) (S n))(g:Wds w (I a' k' c') (S m))(hl:(S n).length<=1048576)(n1:(S m).length<=1048576)(h6:m≠0):
 af ae 254 #[K #[I a k c],K #[I a' k' c']] w λe w'=>aK3 w (n/m) (n%m) e w':=by
 obtain⟨va,vc,he⟩:=bz h;injection he with h1 h2 f;subst h1 h2 f;obtain⟨n2,n3,he⟩:=bz g;injection he with h1 h2 f;subst h1 h2 f
 have d:((S m).length:Int)≠0:=by
  have:=(gp h6).2;omega
 have n4:(((S m).length:Int)==0)=cr:=by rw[beq_eq_false_iff_ne];exact d
 have n5:Y n<=64*(S n).length:=cw.2 (by rw[<-dt];exact ee (hU _));have j7:M (∀x,V w w x->af ae 252 #[K #[I a (S n).length c]] x λe w'=>e=ai (O au (Y n))/\V x.heap.size x w'):=λx hx=>wH a _ c n x (h.A7 hx) (by omega);have HW:M (∀x,V w w x->Wds x (I a (S n).length c) (S n)/\Wds x (I a' (S m).length c') (S m)):=λx hx=>⟨h.A7 hx,g.A7 hx⟩;have j8:M (∀(x:G)(j:Nat),V w w x->(j:Int)<=4294967296->af ae 257 #[K #[I a (S n).length c],O au j] x λe w'=>e=ai (cg (n.testBit j))/\V x.heap.size x w'):=λx j hx hj=>rP a c n j x (h.A7 hx) (by omega) hj;clear h g d;have d:=du (n:=n);have j9:=A d;clear d;generalize d:(S m).length=a0 at*;generalize g:(S n).length=N at*;have HM:=A d;clear d g;generalize d:Y n=bl at*;clear d;obtain⟨w0,d⟩:∃w0,w0=((((w.alloc (U #[I a N c] 381)).alloc (U #[I a' a0 c'] 381)).alloc (U #[()] 381)).alloc (U #[()] 381)):=⟨_,rfl⟩;have u:w0.heap.size=w.heap.size+4:=by rw[d];simp
 have h:w0.heap[w.heap.size+3]?=Z (U #[()] 381 (0,0)):=by rw[d];simpa using aL (((w.alloc (U #[I a N c] 381)).alloc (U #[I a' a0 c'] 381)).alloc (U #[()] 381)) (U #[()] 381)
 have f:V (((w.alloc (U #[I a N c] 381)).alloc (U #[I a' a0 c'] 381)).alloc (U #[()] 381)).heap.size (((w.alloc (U #[I a N c] 381)).alloc (U #[I a' a0 c'] 381)).alloc (U #[()] 381)) w0:=by
  rw[d];exact(dk _ _).alloc (hU _) _
 obtain⟨g1,l,g3,g,_⟩:=tQ f;have G1:=A g1;have G2:=A l;have G3:=A g3;have G4:=A h;have l5:=A d;clear g1 l g3 h f d;go_enter func254,ntmps254;go_wp2_with fail
 go_step3
 go_wp2_with (at_make;refine rO (B:=w.heap.size+4) (enc:=kC) 0 aEx rfl _ _ rfl _ _ _ _ N N rfl rfl ?_ ?_ ?_ ?_ ?_ ?_ ?_)
 .first|rfl|omega
 .first|rfl|omega
 .omega
 .omega
 .unfold aw;omega
 .simp
 rw[show((((w.alloc (U #[I a N c] 381)).alloc (U #[I a' a0 c'] 381)).alloc (U #[()] 381)).alloc (U #[()] 381))=w0 from l5.o.symm];intro w1 f h;have d:V (w.heap.size+4) w0 w1:=h.mono (by omega);have s:w.heap.size+4<=w1.heap.size:=by have:=h.size;omega
 have l:V w w w1:=g.trans (d.mono (by omega));have k0:=A ((d.block _ (by omega)).trans G1.o);have l6:=A ((d.block _ (by omega)).trans G2.o);have l7:=A ((d.block _ (by omega)).trans G3.o);have l8:=A ((d.block _ (by omega)).trans G4.o);have i3:w.heap.size+1+1+1+1<w1.heap.size:=(f.lt _ rfl).2;obtain⟨a1,C⟩:∃a1,w.heap.size+1+1+1+1=a1:=⟨_,rfl⟩;have l9:w.heap.size+4<=a1:=by omega
 rw[C]at f i3⊢;have h7:=Q k0.o;have m0:=A f;have k1:V w w (w1.alloc (U #[()] 381)):=l.alloc (by omega) _;have m7:(w1.alloc (U #[()] 381)).cell? w=Z (I a N c):=by rw[pi _ _ ⟨w.heap.size,0,W⟩ (by simp;omega)];exact h7
 clear h d u C f h7 g;go_wp2_with fail
 go_step3
 go_wp2_with fail;refine(j7.o _ k1).mono ?_;rintro e w2 ⟨rfl,f⟩;obtain⟨u,d,k2⟩:=after1 f;have i4:=chain l d;have K1:=A (keep k0.o d);have K2:=A (keep l6.o d);have K3:=A (keep l7.o d);have K4:=A (keep l8.o d);have m1:=A (m0.o.A7 d);obtain⟨h,g⟩:∃h,w1.heap.size=h:=⟨_,rfl⟩;rw[g]at u i3 k2⊢;have n6:w.heap.size+4<h:=by omega
 have KL:=A u;clear u f d l g s;have i5:w.heap.size+4<=w2.heap.size:=by omega
 go_wp2
 go_loopw [9] (λi wr=>∃(t:Nat)(D:List Nat)(L:Option bg)(P R:Nat),t<=bl/\i=O au ((t:Int)-1)/\Row (w.heap.size+4) 30 kC wr (I (Z ⟨a1,0,W⟩) N N) D/\D.length=N/\ar D/\X D=n/2^t/m*2^t/\
  wr.heap[h]?=Z (U #[I L P R] 381 (0,0))/\Wds wr (I L P R) (S (n/2^t%m))/\V (w.heap.size+4) w2 wr) (λi _=>(ah i+1).toNat)
 case atStart=>exact⟨bl,di N 0,W,0,0,hU _,rfl,m1.o.I3 l9,by simp,nS N,by rw[oo j9.o];have:=tR N [];simp[X]at this;simp[this],KL.o,by rw[oo j9.o,Nat.zero_mod,ej];exact Wds.nil _,dk _ _⟩
 case round=>
  obtain⟨t,D,L,P,R,ht,rfl,T,d,h8,l,g,s,f⟩:=hrel;have j0:=A l;have j3:=A d;have GL:=A g;have WL:=A s;have k3:w.heap.size+4<=wr.heap.size:=bo i5 f.size;have m8:h<wr.heap.size:=dm g;have i6:V w w wr:=i4.trans (f.mono (by omega));have J1:=A ((f.block _ (by omega)).trans K1.o);have J2:=A ((f.block _ (by omega)).trans K2.o);have J3:=A ((f.block _ (by omega)).trans K3.o);have J4:=A ((f.block _ (by omega)).trans K4.o);clear l d g s;rcases hG t with rfl|n7
  .have h9:=Q GL.o;go_wp2
   go_region_with (first|(go_at_call 249;refine(jW _ D _ h8 ((T.B0).I3 (dr _))).mono ?_;rintro e wy ⟨l,s,u,rfl,g9,d⟩;have j4:=(d.cell (p:=⟨h,0,W⟩) (by simp;omega)).trans h9;have i1:=Q ((d.block _ (by simp;omega)).trans J3.o);have i2:=Q ((d.block _ (by simp;omega)).trans J4.o);have i7:=bp ((d.block _ (by simp;omega)).trans J3.o);have i8:=bp ((d.block _ (by simp;omega)).trans J4.o)))
   all_goals
    have g3:=(d.block _ (by simp;omega)).trans J3.o;have g4:=(d.block _ (by simp;omega)).trans J4.o;have C:=(WL.o.B0).A7 d;rw[j0.o,pk,ii,nd]at g9;rw[pk,ii]at C;go_wp2_with fail;have s3:=aB (o:=0) g3 (I l s u);have g:=(aE (o:=0) (I l s u) (by omega:w.heap.size+3≠w.heap.size+2)).trans g4;have s4:=aB (o:=0) g (I L P R);have F:=(aE (o:=0) (I L P R) (by omega:w.heap.size+2≠w.heap.size+3)).trans s3;have H:=Q F;have h0:=Q s4;have h4:V w w ((wy.setCell ⟨w.heap.size+2,0,W⟩ (I l s u)).setCell ⟨w.heap.size+3,0,W⟩ (I L P R)):=(((i6.drew).trans (d.mono (by simp;omega))).setCell (p:=⟨w.heap.size+2,0,W⟩) (by simp) _).setCell (p:=⟨w.heap.size+3,0,W⟩) (by simp) _;have h5:=(g9.E0 g3 (by decide) 0 (I l s u)).E0 g (by decide) 0 (I L P R);have i0:=(C.E0 g3 (by decide) 0 (I l s u)).E0 g (by decide) 0 (I L P R);rw[Exit.noGoto_ret];exact bb (v:=ag #[K #[I l s u],K #[I L P R],bw]) (by simp[ak,results254,go_sem,H,h0]) rfl ⟨l,s,u,L,P,R,rfl,h5,i0,h4⟩
  .obtain⟨j,rfl⟩:∃j,t=j+1:=⟨t-1,by omega⟩;have g:((j+1:Nat):Int)-1=(j:Int):=(by omega);rw[g];clear g;have k4:(j:Int)<=4294967296:=(by omega);have h7:=Q J1.o;have h9:=Q GL.o;have k6:=bp GL.o;obtain⟨b,C⟩:∃b,n.testBit j=b:=⟨_,rfl⟩;have g:=j8.o wr.drew j i6.drew k4;rw[C]at g;have m2:=A g;have m3:=A C;clear g C;have F:n/2^(j+1)%m<m:=mf _ (ij h6);have H:m<2^(64*a0):=(by rw[<-dt,<-HM.o];exact ee (hU _));have i0:(S (n/2^(j+1)%m)).length<=4294967295:=bo (fe (k:=a0) (cw.2 (by omega))) (by omega)
   have C:Y (2*(n/2^(j+1)%m)+b.toNat)<=64*(a0+1):=cw.2 (by
    have k7:b.toNat<=1:=by cases b<;>decide
    have:2^(64*a0+1)<=2^(64*(a0+1)):=ju (by decide) (by omega);rw[jx]at this;omega)
   have g:=aK0 n j;rw[m3.o]at g;have i7:=A g;have k9:=A C;clear C H F g;go_wp2
   go_region_with (first|(go_at_call 257;refine(m2.o).mono ?_;rintro e x ⟨rfl,C⟩;have l0:=(C.cell (p:=⟨h,0,W⟩) (by simp;omega)).trans h9)|(go_at_call 275;refine(aHa L P R (n/2^(j+1)%m) b _ ((WL.o.B0).A7 C) i0).mono ?_;rintro e wy ⟨l,s,u,rfl,g9,d⟩;have j4:=(d.cell (p:=⟨h,0,W⟩) (by have:=C.size;simp at this;simp;omega)).trans l0;have l2:=(d.frozen (p:=⟨h,0,W⟩) (by have:=C.size;simp at this;simp;omega)).trans ((C.frozen (p:=⟨h,0,W⟩) (by simp;omega)).trans k6)))
   all_goals
    have H:=C.trans (d.mono C.size);have h0:V (w.heap.size+4) w2 wy:=f.drew.trans (H.mono k3);have i8:V w w wy:=i4.trans (h0.mono (by omega));have h4:Row (w.heap.size+4) 30 kC wy (I (Z ⟨a1,0,W⟩) N N) D:=ge (w:=wr.drew) T.B0 H;have i1:=keep (w1:=wr.drew) GL.o H;have j1:=keep (w1:=wr.drew) J1.o H;have j2:=keep (w1:=wr.drew) J2.o H;have j5:Wds (wy.setCell ⟨h,0,W⟩ (I l s u)) (I l s u) (S (2*(n/2^(j+1)%m)+b.toNat)):=Wds.E0 g9 i1 (by decide) _ _;have g:V (w.heap.size+4) w2 (wy.setCell ⟨h,0,W⟩ (I l s u)):=h0.setCell (by simp;omega) _;have h5:V w w (wy.setCell ⟨h,0,W⟩ (I l s u)):=i8.setCell (by simp;omega) _;have F:Row (w.heap.size+4) 30 kC (wy.setCell ⟨h,0,W⟩ (I l s u)) (I (Z ⟨a1,0,W⟩) N N) D:=gh h4 i1 (by decide) _ _;have i2:=aB (o:=0) i1 (I l s u);have l1:=(aE (o:=0) (I l s u) (by omega:w.heap.size≠h)).trans j1;have j6:=(aE (o:=0) (I l s u) (by omega:w.heap.size+1≠h)).trans j2;obtain⟨w5,i9⟩:∃w5,wy.setCell ⟨h,0,W⟩ (I l s u)=w5:=⟨_,rfl⟩;rw[i9]at j5 g h5 F i2 l1 j6⊢;clear i9 H h0 i8 h4 i1 j1 j2 g9 d C l0 j4 l2 h9 k6 h7 T f;have C:=Q i2;have H:=Q j6;have h7:=A i2;have i8:=A F;have W5:=A j5;clear i2 l1 j6 F j5;have F:Y (2*(n/2^(j+1)%m)+b.toNat)<=64*(a0+1):=k9.o;have g9:(S (2*(n/2^(j+1)%m)+b.toNat)).length<=4294967295:=bo (fe F) (by omega);have d:=aGy l a' s a0 u c' (2*(n/2^(j+1)%m)+b.toNat) m w5 W5.o (HW.o w5 h5).2 g9 (by rw[HM.o];omega);have f:=A d;clear d F;by_cases T:2*(n/2^(j+1)%m)+b.toNat<m
    .have hz:rQ (2*(n/2^(j+1)%m)+b.toNat) m= -1:=pz T;have d:=aK1 (N:=n/2^(j+1)) (ij h6) rfl T;rw[hz]at f;rw[<-i7.o]at d;have F:=A d;clear hz d;go_wp2_with fail;refine(f.o).mono ?_;rintro e w6 ⟨rfl,d⟩;have h0:=g.trans (d.mono (by have:=g.size;omega));have h4:=keep h7.o d;have W6:=A (W5.o.A7 d);have h9:=A (i8.o.A7 d);have i1:=A h4;clear h4 d g C H;go_wp2;go_roundw
     case rel=>
      refine⟨j,D,l,s,u,by omega,rfl,h9.o,j3.o,h8,?_,i1.o,?_,h0⟩
      .rw[j0.o,F.o.2,aHb]
      .rw[F.o.1];exact W6.o
     case measure=>simp[ah]
    .have k7:b.toNat<=1:=(by cases b<;>decide);obtain⟨z,hz,n8⟩:∃z,rQ (2*(n/2^(j+1)%m)+b.toNat) m=z/\0<=z:=⟨_,rfl,by unfold rQ;rw[py T];split<;>decide⟩;have h0:=aI6 (N:=n/2^(j+1)) (ij h6) rfl k7 (by omega);rw[hz]at f;rw[<-i7.o]at h0;have i2:=A h0;have F:=λw6(d:V w5.heap.size w5 w6)=>aKT l a' s a0 u c' (2*(n/2^(j+1)%m)+b.toNat) m w6 (W5.o.A7 d) ((HW.o w5 h5).2.A7 d) g9 (by rw[HM.o];omega) (by omega);rw[<-i2.o.1]at F;have i9:=A F;clear hz h0 F;have j5:w.heap.size+4<=w5.heap.size:=bo i5 g.size;have h9:h<w5.heap.size:=dm h7.o;go_wp2_with fail;refine(f.o).mono ?_;rintro e w6 ⟨rfl,d⟩;have j6:=(d.cell (p:=⟨h,0,W⟩) h9).trans C;have k6:=(d.cell (p:=⟨w.heap.size+1,0,W⟩) (by simp;omega)).trans H;clear C H;go_wp2_with fail;refine(i9.o _ d).mono ?_;rintro e w7 ⟨a8,k8,c8,rfl,l0,l1⟩;have C:=d.trans (l1.mono d.size);have F:=keep h7.o C;have l2:=i8.o.A7 C;have h0:=g.trans (C.mono j5);have l3:=l0.E0 F (by decide) 0 (I a8 k8 c8);have l4:=aB (o:=0) F (I a8 k8 c8);have H:Row (w.heap.size+4) 30 kC (w7.setCell ⟨h,0,W⟩ (I a8 k8 c8)) (I (Z ⟨a1,0,W⟩) N N) D:=gh l2 F (by decide) _ _;have h4:V (w.heap.size+4) w2 (w7.setCell ⟨h,0,W⟩ (I a8 k8 c8)):=h0.setCell (by simp;omega) _;have m9:=Q F;have n0:=bp F;have W9:=A l3;have m4:=A l4;have i1:=A H;have m5:=A h4;have m6:a1<w6.heap.size:=(by have:=d.size;omega);clear j6 k6 d l1 C F l2 h0 l0 l3 l4 H h4 g;obtain⟨q,r,C,d⟩:∃q r,j=64*q+r/\r<64:=⟨j/64,j%64,by omega,by omega⟩;have l0:(j:Int)/64=q:=(by omega);have l1:(j:Int)%64=r:=(by omega);have h4:q<N:=(by omega);have g:q<D.length:=(by rw[j3.o];exact h4);obtain⟨y,hy,F,H⟩:=aK2 h8 C d g j0.o;have l2:(w7.setCell ⟨h,0,W⟩ (I a8 k8 c8)).cell? ⟨a1,q,W⟩=Z (O J (D.getD q 0:Nat)):=i1.o.B6 (lX g);have l3:=i1.o.K6 q;have h0:=i1.o.N8 (i:=q) g y;have l4:=aI8 d;have j4:cj dx J (D.getD q 0:Nat) (2^r)=(y:Int):=(by rw[<-hy];simp);have j6:=A h0;have k6:=A H;clear h0 H C;generalize D.getD q 0=o at*;go_wp2;go_region;go_wp2;go_roundw
     case rel=>
      refine⟨j,D.set q y,a8,k8,c8,by omega,rfl,j6.o,by simp[j3.o],tS h8 _ F,?_,?_,?_,(m5.o.setCell (p:=⟨a1,q,W⟩) (by simp;omega) _).drew⟩
      .rw[k6.o,i2.o.2]
      .exact(aE _ (by omega)).trans m4.o
      .exact((W9.o.U0 m6 _ _).I3 (dr _)).B0
     case measure=>simp[ah]
def aCz(n:Nat):ei:=if n<18446744073709551616 then ai (ag #[O J n,cg fj])else ai (ag #[O J 0,cg cr])
def pC(a:Option bg)(k c n:Nat)(w:G)(h:Wds w (I a k c) (S n))(x:(S n).length<=4294967296):
 af ae 256 #[K #[I a k c]] w λe w'=>e=aCz n/\V w w w':=by
 obtain⟨y,z,u⟩:=bz h;injection u with r o t;subst r o t;have f:V w w (w.alloc (U #[I a (S n).length c] 381)):=(dk _ _).alloc (hU _) _;have i:=eu n 0;by_cases g:n<18446744073709551616
 .have b:(S n).length<=1:=gw (by simpa using g);have j:¬(1<((S n).length:Int)):=by omega
  have d:aCz n=ai (ag #[O J n,cg fj]):=pz g;rw[d];have s:=A (wS a _ c (S n) 0 _ (h.A7 f) (by omega) (by omega));clear d h;go_enter func256,ntmps256;go_wp2_with fail;refine(s.o).mono ?_;rintro e w1 ⟨rfl,p⟩;obtain⟨_,l,_⟩:=after1 p;have q:(S n).getD (jo 0) 0=n:=by rw[show jo 0=0 from rfl,i,pk,ii,mt g]
  rw[q];go_wp2;exact bb (v:=ag #[O J n,cg fj]) (by simp[ak,jp,go_sem]) rfl ⟨rfl,l⟩
 .have b:¬(S n).length<=1:=λm=>g (by have:=ee m;simpa using this);have j:1<((S n).length:Int):=by omega
  have d:aCz n=ai (ag #[O J 0,cg cr]):=py g;rw[d];clear d h;go_enter func256,ntmps256;go_wp2;exact bb (v:=ag #[O J 0,cg cr]) (by simp[ak,jp,go_sem]) rfl ⟨rfl,f⟩
def aLZ(n:Nat):10^n<2^(4*n+1):=by
 have h:10^n<=16^n:=Nat.pow_le_pow_left (by decide) n;have e:16^n=2^(4*n):=by rw[na]
 rw[jx];have:=kF (4*n);omega
def iB(n:Nat):Y (10^n)<=4*n+1:=cw.2 (aLZ n)
def aBs(n:Nat)(w:G)(s:n<=1300):af ae 233 #[n] w λe w'=>aBp w (10^n) e w':=by
 have d:Y (10^n)<=8192:=bo (iB n) (by omega);have o:=A (aG9 10 n);have m:=A d;clear d;go_enter func233,ntmps233;go_wp2_with fail;refine(o.o _ (by decide) (by decide) (by omega) m.o).mono ?_;rintro e w1 ⟨a,k,c,rfl,j,l⟩;obtain⟨i,f,p⟩:=after1 l;have b:(w1.alloc (U #[I a k c] 381)).heap[w.heap.size]?=Z (U #[()] 381 (0,0)):=(de _ _ _ (dm i)).trans i;have g:=Q b;have r:=bp b;have h:=A b;have q:=A j;clear j i b;go_wp2;exact bb (v:=K #[I a k c]) (by simp[ak,results233,go_sem,g]) rfl ⟨a,k,c,rfl,(q.o.A5 _).E0 h.o (by decide) _ _,(f.alloc (by omega) _).setCell (by simp) _⟩
def aLP(w:G)(o1 o2:Obj):((w.alloc o1).alloc o2).heap[w.heap.size]?=Z o1/\((w.alloc o1).alloc o2).heap[w.heap.size+1]?=Z o2/\V w w ((w.alloc o1).alloc o2):=by
 refine⟨(de _ _ _ (by simp)).trans (aL w _),?_,((dk _ _).alloc (hU _) _).alloc (by simp) _⟩;have:=aL (w.alloc o1) o2;simpa using this
def wr{z:Int}(a: -9223372036854775808<=z)(b:z<=9223372036854775807):au.wrap z=z:=by rw[b9];omega
def lY(a:Option bg)(k c n b:Nat)(w:G)(h:Wds w (I a k c) (S n))(d:Y n=b)(f:b<=100000):af ae 252 #[K #[I a k c]] w λe w'=>
 e=ai (O au (b:Nat))/\V w w w':=by
 subst d;exact wH a k c n w h (bo (fe (k:=100000) (by omega)) (by decide))
def kZ(h:n≠0):0<Y n:=by
 rcases hG (Y n)with a|a
 .have:=cw.1 (nl a);simp at this;omega
 .exact a
def lZ(h:n≠0):2^(Y n-1)<=n:=ik.1 (by have:=kZ h;omega)
def mS(h:n≠0)(k:Nat):Y (n*2^k)=Y n+k:=by
 have a:=kZ h;refine ow ?_ ?_
 .rw[cw,ld];exact jb du (kF k)
 .have:Y n+k-1<Y (n*2^k):=by
   rw[ik,show Y n+k-1=(Y n-1)+k by omega,ld];exact ev _ (lZ h)
  omega
def aCA{D:Nat}(c:D≠0)(h:Y N=Y D+66):66<=Y (N/D)/\Y (N/D)<=67:=by
 have f:N≠0:=by intro e;subst e;have:Y 0=0:=rfl;omega
 have g:=kZ c;have a:=lZ f;have d:=lZ c;constructor
 .have:65<Y (N/D):=by
   rw[ik,Nat.le_div_iff_mul_le (by omega)];have b:2^65*D<=2^65*2^Y D:=ns _ (iF du);rw[<-ld]at b;rw[show Y N-1=65+Y D by omega]at a;exact bo b a
  omega
 .rw[cw];refine nm ?_;refine a7 du ?_;rw[h,show Y D+66=(Y D-1)+67 by omega,ld];exact ev _ d
def tT(c:Y q=b)(h:b<=53+j):q/2^j<9007199254740992:=by
 refine nm ?_;have a:q<2^b:=c▸du;refine a7 a ?_;rw[show 9007199254740992=2^53 from rfl,ke,<-ld];exact ju (by decide) (by omega)
def aGB(r:Nat):decide ((0:Int)<(Y r:Int))=decide (r≠0):=by
 by_cases h:r=0
 .subst h;rfl
 .have:=kZ h;simp[h,this]
def aCB(r:Nat):decide (0<Y r)=!decide (r=0):=by
 by_cases h:r=0
 .subst h;rfl
 .have:=kZ h;simp[h,this]
def aAI{B:Nat}(b:x*4503599627370496+q/2^j=B)(c:x<=3000)(a:q/2^j<9007199254740992):J.wrap ((x:Int)*4503599627370496+(q:Int)/2^j)=(B:Int):=by
 have e:(q:Int)/2^j=((q/2^j:Nat):Int):=by simp
 rw[em,e];omega
def cells3{d c a:ao}{T:TypeId}(h:w.heap[b]?=Z (U #[d,c,a] T (0,0))):w.cell? b=Z d/\w.cell? ⟨b,1,W⟩=Z c/\w.cell? ⟨b,2,W⟩=Z a/\∀o,w.frozen? ⟨b,o,W⟩=cr:=
 ⟨aA h,aA h,aA h,free_at h⟩
def aCC(b:1<=j)(h:q%2^j=0):q.testBit (j-1)=cr:=by
 obtain⟨c,a⟩:=Nat.dvd_of_mod_eq_zero h;rw[a,Nat.testBit_two_pow_mul];simp;omega
def dI(q r j:Nat):Int:=if q/2^(j-1)%2=1 then(if q%2^(j-1)≠0\/r≠0 then 1 else 0)else -1
def pD(h:q.testBit (j-1)=cr):dI q r j= -1:=by
 unfold dI;rw[if_neg];intro a;rw[ew]at h;simp[a]at h
def aAJ(h:q.testBit (j-1)=fj)(a:q%2^(j-1)=0)(b:r=0):dI q r j=0:=by
 rw[ew]at h;unfold dI;rw[pz (by simpa using h),py (by simp[a,b])]
def rS(h:q.testBit (j-1)=fj)(a:q%2^(j-1)≠0\/r≠0):dI q r j=1:=by
 rw[ew]at h;unfold dI;rw[pz (by simpa using h),pz a]
def fE(q r j:Nat):Bool:=decide (q%2^j≠0)||decide (r≠0)
def aI9{b a:Int}(c:max ((Y q:Int)-53-b) (-1074)=a)(d:a+b=(j:Int))(e:a+1074=(x:Int)):
 kD q r b=if aM<x*4503599627370496+q/2^j then⟨aM,1,cr⟩else⟨x*4503599627370496+q/2^j,dI q r j, !fE q r j⟩:=by
 unfold kD dI fE;simp only[c,d,e,gq]
def cutV(c:Cut):ao:=K #[O J c.bits,c.a,c.exact]
