/-
  The program, one part of its walk. Conditions: none.
-/
import Derived.Test.YtakkmiomhackiaaGreatDoorBf01
import Derived.Shelf.Spec.BitsCarry
import Derived.Deep.RegionHeld3
import Derived.Deep.RegionWith
set_option linter.all false
set_option maxRecDepth 100000
set_option maxHeartbeats 16000000
open Go.Proofs.Tryz
open Bool renaming eq_iff_iff->em,false->dm,or_eq_true->ir
open Go renaming Addr->bj,Calls->ah,Ending->dw,Value->aw,World->K,bits->cj,bits_or_u64_nat->eu,bodyPost_ret->ak,callFunc->fv,cell_of_one->G,free_of_one->bm,heap_alloc_new->dp,info_parts->gw,lt_of_block->di,maxLen->au,results->ao,run_callFunc_extern->gx,wpList_make_own->ii
open Go.BinOp renaming and->fg,or->dt
open Go.Ending renaming returned->ai
open Go.IntKind renaming i64->av,u64->J,wrap->jf,wrap_u64->et
open Go.IntWalk renaming wrap64_in->je
open Go.Lib renaming bitLen->gc,bitLenAux->gd
open Go.Next renaming value->fw
open Go.Obj renaming cells->U
open Go.Proofs.Tryz renaming func278->gj,ntmps278->gk,prog->ae,results248->ib,results249->fz,results251->ij,results253->iq,results256->jd,underlying379->ew
open Go.Proofs.YtakkmiomhackiaaGreatDoor.Lim renaming Small->aj,bitlen->ac,bitlen_le->dy,bitlen_limbs->gh,limbs->S,limbs_getD->ek,limbs_length_le->gm,limbs_zero->dx,lt_bitlen->ge,lt_of_limbs_length->dv,short->fk,small_append->co,small_limbs->dl,val->X,val_append->ck,val_limbs->ep,val_lt->gl,wpow->dj
open Go.Proofs.YtakkmiomhackiaaGreatDoor.Row renaming A4->ft,A7->bz,B5->fu,nil->ez
open Go.RowKit renaming Below->V,intOf->ag
open Go.RowKit.Below renaming heap_alloc->eh,refl->E
open Go.Value renaming agg->Y,bool->cg,int->O,nilIface->bw,slice->I,tuple->af
open Go.World renaming cell?_alloc_lt->fa
open Int renaming natCast_zero->ga,toNat->jc,toNat_natCast->ie
open List renaming getD->bc,getElem?_eq_getElem->dh,getElem?_eq_none->gz,getElem?_set_ne->iz,getElem_mem->ej,replicate->cv,take_length->eo
open Nat renaming add_assoc->fi,add_comm->fe,add_eq_zero_iff->it,add_mul->fj,add_zero->cw,div_add_mod->gq,div_div_eq_div_mul->du,div_eq_of_lt->ei,div_le_div_right->ik,div_le_self->fh,div_lt_of_lt_mul->go,div_one->gu,eq_zero_or_pos->fc,le_refl->H,le_trans->bu,lt_of_le_of_lt->gn,lt_of_lt_of_le->ev,lt_or_ge->il,lt_trichotomy->im,mod_eq_of_lt->ct,mod_lt->bx,mod_mul->ix,mod_one->iy,mul_add->ar,mul_add_div->jb,mul_add_mod->ja,mul_assoc->bp,mul_comm->bk,mul_eq_zero->iu,mul_le_mul->gy,mul_le_mul_left->io,mul_le_mul_right->ip,mul_left_comm->dq,mul_mod_mul_left->gp,mul_one->fq,mul_zero->ee,ne_of_gt->iv,pos_of_ne_zero->gv,pow_add->cu,pow_le_pow_right->cr,pow_pos->iw,pow_succ->ba,pow_zero->gr,testBit_eq_decide_div_mod_eq->ig,two_pow_add_eq_or_of_lt->fm,two_pow_pos->cz,zero_le->bh
open Option renaming none->W,some->Z
namespace Go.Proofs.YtakkmiomhackiaaGreatDoor
open Go.RowKit
variable {w:K}{v:aw}{l:List Nat}{P R a b c d hi j k m n q s t x y:Nat}
abbrev kC(x:Nat):aw:=O J x
def Wds(w:K)(v:aw)(l:List Nat):Prop:=Row 0 30 kC w v l
def nP:Elem 379 30 8:=⟨ew,by
 have h:(ae.info? 30).map (λi=>(i.zero,i.size,i.bytes))=Z (Z (O J 0),1,8):=by kernel_rfl
 obtain⟨i,c,a,d,b⟩:=gw h;exact⟨i,_,c,a,d,b,rfl⟩⟩
def aEx:aIS 379 30 8 (kC 0):=⟨ew,by
 have h:(ae.info? 30).map (λi=>(i.zero,i.size,i.bytes))=Z (Z (O J 0),1,8):=by kernel_rfl
 obtain⟨i,c,a,d,b⟩:=gw h;exact⟨i,c,a,d,b,rfl⟩⟩
def Wds.A4{w':K}(h:Wds w v l)(a:V w w w'):Wds w' v l:=ft h a
def Wds.A6(h:Wds w v l)(o:Obj):Wds (w.alloc o) v l:=Row.A6 h o
def Wds.B0(h:Wds w v l):Wds w.drew v l:=h
def Wds.B5(h:Wds w v l){b:Nat}{c:Array aw}{T:TypeId}(d:w.heap[b]?=Z (U c T (0,0)))(a:T≠30)(o:Nat)(u:aw):Wds (w.setCell ⟨b,o,W⟩ u) v l:=fu h d a o u
def Wds.nil(w:K):Wds w (I W 0 0) []:=ez 0 30 kC w
def Wds.B6(h:Wds w v l):(v=I W 0 0/\l= [])\/
 ∃g cap,v=I (Z ⟨g,0,W⟩) l.length cap/\g<w.heap.size/\l.length<=cap/\cap<=au/\∀i,i<l.length->w.cell? ⟨g,i,W⟩=Z (O J (l.getD i 0:Nat)):=by
 rcases Row.B6 h with h|⟨g,cap,c,_,d,e,b,_,a⟩
 .exact .inl h
 .exact .inr ⟨g,cap,c,d,e,b,λi hi=>a i _ (by rw[bc,dh hi];rfl)⟩
def Wds.G5(w:K)(l:List Nat)(a:l.length<=au):Wds (w.alloc (U (l.map kC).toArray 30)) (I w l.length l.length) l:=Row.G5 0 30 kC w l (bh _) a
def zY(x y c:Nat)(d:x<18446744073709551616)(a:y<18446744073709551616)(b:c<=1):∃s k:Nat,s+18446744073709551616*k=x+y+c/\s<18446744073709551616/\k<=1/\
 ∀w,(fv 250 #[O J x,O J y,O J c]).run ae w=.ok (fw (af #[O J s,O J k])) w:=by
 refine⟨(x+y+c)%18446744073709551616,(x+y+c)/18446744073709551616,by omega,by omega,by omega,λw=>?_⟩;rw[gx func250 (by kernel_rfl) (by kernel_rfl) (by kernel_rfl) (e:=add64Entry) (by kernel_rfl),run_add64 x y c (by omega) (by omega) (by omega) (by omega)];simp only[Result.andThen];congr 5<;>omega
def mR(x y:Nat)(e:x<18446744073709551616)(a:y<18446744073709551616):∃s k:Nat,s+18446744073709551616*k=x+y/\s<18446744073709551616/\k<=1/\
 ∀w,(fv 250 #[O J x,O J y,O J 0]).run ae w=.ok (fw (af #[O J s,O J k])) w:=by
 obtain⟨s,k,f,b,d,c⟩:=zY x y 0 e a (by omega);exact⟨s,k,by omega,b,d,λw=>c w⟩
def zZ(x y b:Nat)(d:x<18446744073709551616)(c:y<18446744073709551616)(a:b<=1):∃s k:Nat,s+y+b=x+18446744073709551616*k/\s<18446744073709551616/\k<=1/\
 ∀w,(fv 296 #[O J x,O J y,O J b]).run ae w=.ok (fw (af #[O J s,O J k])) w:=by
 refine⟨(x+18446744073709551616-y-b)%18446744073709551616,if x<y+b then 1 else 0,by split<;>omega,by omega,by split<;>omega,λw=>?_⟩;rw[gx func296 (by kernel_rfl) (by kernel_rfl) (by kernel_rfl) (e:=sub64Entry) (by kernel_rfl),run_sub64 x y b a];rfl
def pX(x y:Nat)(d:x<18446744073709551616)(b:y<18446744073709551616)(w:K):ah ae 94 #[O J x,O J y] w λe w'=>
 ∃h l:Nat,e=ai (af #[O J h,O J l])/\w=w'/\l+18446744073709551616*h=x*y/\l<18446744073709551616/\h<18446744073709551615:=by
 refine(Tryz.I8 x y d b w).mono λe w' ⟨c,a⟩=>⟨x*y/18446744073709551616,x*y%18446744073709551616,c,a.symm,by omega,by omega,?_⟩
 have f:x*y<=18446744073709551615*18446744073709551615:=gy (by omega) (by omega);omega
def aBp(w:K)(n:Nat)(e:dw)(w':K):Prop:=∃a k c,e=ai (Y #[I a k c])/\Wds w' (I a k c) (S n)/\V w w w'
def pB(w:K)(n:Nat)(b:aw)(e:dw)(w':K):Prop:=∃a k c,e=ai (af #[Y #[I a k c],b])/\Wds w' (I a k c) (S n)/\V w w w'
def aAG(B:Nat)(v:aw)(l:List Nat)(w:K)(D:aj l)(h:Row B 30 kC w v l):ah ae 249 #[v] w λe w'=>
 ∃a k c,e=ai (Y #[I a k c])/\Row B 30 kC w' (I a k c) (S (X l))/\V w w w':=by
 rcases Wds.B6 (h.D6 (bh _))with⟨rfl,rfl⟩|⟨g,cap,rfl,y,N,L,b⟩
 .go_enter func249,ntmps249;go_wp2;refine wp_loop_rounds 1 ?_;rw[rounds_succ];go_wp2;refine ak (v:=Y #[()]) (by simp[ao,fz,go_sem]) rfl ⟨_,_,_,rfl,?_,?_⟩
  .simp only[X,dx];exact ez _ _ _ _
  .exact(E _ _).alloc (H _) _
 .have r:l.length<=9223372036854775807:=by unfold au at L;omega
  go_enter func249,ntmps249;go_wp2
  go_loop [3] (λn=>∃k:Nat,k<=l.length/\n=O av k/\∀i,k<=i->l.getD i 0=0) (λn=>(ag n).toNat)
  case atStart=>exact⟨l.length,H _,rfl,λi hi=>by simp[bc,gz hi]⟩
  case round=>
   obtain⟨k,o,rfl,s⟩:=hrel;have t:=A s;clear s
   have d:∀m,m<=l.length->m=k->(k=0\/l.getD (k-1) 0≠0)->Row B 30 kC w (I g m cap) (S (X l)):=by
    intro m z e C;subst e;rw[Lim.limbs_take D o t.o C];exact h.take o
   have j:=A d;clear d
   by_cases p:k=0
   .subst p;simp only[ga]at*;go_wp2;refine ak (v:=Y #[I g 0 cap]) (by simp[ao,fz,go_sem]) rfl ⟨_,_,_,rfl,?_,?_⟩
    .exact(j.o 0 (by omega) rfl (by simp)).A4 ((E _ _).alloc (H _) _)
    .exact(E _ _).alloc (H _) _
   .have u:(w.alloc (U #[()] 381)).cell? ⟨g,k-1,W⟩=Z (O J (l.getD (k-1) 0:Nat)):=by
     rw[fa _ _ ⟨g,k-1,W⟩ (by simpa using y)];exact b _ (by omega)
    generalize F:l.getD (k-1) 0=x at*
    by_cases f:x=0
    .subst f;go_wp2
     refine ⟨⟨k - 1, by omega, by have : ((k - 1 : Nat) : Int) = (k : Int) - 1 := by omega
                                  rw[this],λi hi=>?_⟩,by simp[ag];omega⟩
     by_cases q:i=k-1
     .subst q;exact F
     .exact t.o i (by omega)
    .go_wp2;refine ak (v:=Y #[I g k cap]) (by simp[ao,fz,go_sem]) rfl ⟨_,_,_,rfl,?_,?_⟩
     .exact(j.o k o rfl (.inr f)).A4 ((E _ _).alloc (H _) _)
     .exact(E _ _).alloc (H _) _
def jW(v:aw)(l:List Nat)(w:K)(a:aj l)(h:Wds w v l):ah ae 249 #[v] w λe w'=>
 aBp w (X l) e w':=aAG 0 v l w a h
def aBq(x:Nat)(w:K)(p:x<18446744073709551616):ah ae 231 #[O J x] w λe w'=>aBp w x e w':=by
 have j:Wds ((w.alloc (U #[()] 381)).alloc (U #[O J x] 30)) (I (w.heap.size+1,0) 1 1) [x]:=by
  have:=Wds.G5 (w.alloc (U #[()] 381)) [x] (by simp[au])
  simpa using this
 have h:X [x]=x:=by simp[X]
 have o:=A h;clear h;go_enter func231,ntmps231;go_wp2_with fail;refine(jW _ [x] _ (λy l=>by simp at l;omega) j).mono ?_;rintro e w1 ⟨a,k,c,rfl,f,i⟩;rw[o.o]at f;obtain⟨b,_,d,-⟩:=after2 i;have g:=G b;have n:=bm b;have m:=A f;clear f;go_wp2;exact ak (v:=Y #[I a k c]) (by simp[ao,results231,go_sem,g]) rfl ⟨a,k,c,rfl,m.o.B5 b (by decide) _ _,d.setCell (H _) _⟩
def bitLen_eq(x:Nat)(a:x<18446744073709551616):gc x=ac x:=by
 have b:∀f x,x<2^f->gd f x=ac x:=by
  intro f
  induction f with
  | zero => intro x a; have : x = 0 := by simpa using a
            subst this;simp[gd,ac]
  | succ f i=>
   intro x a;unfold gd
   by_cases h:x=0
   .subst h;simp[ac]
   .rw[if_neg h,i (x/2) (by rw[ba]at a;omega)];refine Nat.le_antisymm ?_ ?_
    .have:ac (x/2)<ac x:=by
      have g : 0 < ac x := by rcases fc (ac x) with c | c
                              .have:=dy.1 (Nat.le_of_eq c);simp at this;omega
                              .exact c
      have:ac (x/2)<=ac x-1:=dy.2 (by
       have e:=ge (n:=x);obtain⟨m,d⟩:∃m,ac x=m+1:=⟨_,(Nat.succ_pred_eq_of_pos g).symm⟩;rw[d,ba]at e;rw[d,Nat.add_sub_cancel];omega)
      omega
     omega
    .refine dy.2 ?_;have e:=ge (n:=x/2);rw[fe,ba];omega
 exact b 64 x (by simpa using a)
def wH(a:Option bj)(k c:Nat)(n:Nat)(w:K)(h:Wds w (I a k c) (S n))(C:(S n).length<=4294967296):ah ae 252 #[Y #[I a k c]] w λe w'=>
 e=ai (O av (ac n))/\V w w w':=by
 by_cases r:n=0
 .subst r;rw[dx]at h;rcases h.B6 with⟨f,_⟩|⟨g,cap,f,_⟩
  all_goals
   injection f with m l p
   subst m l p;go_enter func252,ntmps252;go_wp2;go_ret;exact⟨by simp[ac],(E _ _).alloc (H _) _⟩
 .obtain⟨i,d⟩:=gh r;rcases h.B6 with⟨_,f⟩|⟨g,cap,f,u,F,D,b⟩
  .rw[f]at d;simp at d
  .injection f with m l p
   subst m l p
   have j:(S n).getD ((S n).length-1) 0<18446744073709551616:=by
    rw[bc,dh (by omega)];exact dl n _ (ej _)
   have B:(w.alloc (U #[I g (S n).length c] 381)).cell? ⟨g,(S n).length-1,W⟩=Z (O J ((S n).getD ((S n).length-1) 0:Nat)):=by
    rw[fa _ _ ⟨g,_,W⟩ (by simpa using u)];exact b _ (by omega)
   clear b;have v:=A i;clear i;generalize y:(S n).length=L at*;clear y h;generalize t:(S n).getD (L-1) 0=x at*;clear t;have q:(0:Int)<=(x:Int):=by omega
   have o:(x:Int)<=18446744073709551615:=by omega
   go_enter func252,ntmps252;go_wp2
   go_quiet ((go_at_call 273;exact Calls.quiet_of_same (Tryz.I7 _ _ q o)))
   go_wp2;go_ret;refine⟨?_,below_drewN ((E _ _).alloc (H _) _) _⟩;have s:gc x<=64:=Lib.bitLen_le x 64 (H _) (by simpa using j)
   have e:wrap64 (64*((L:Int)-1)+(gc x:Int))=(ac n:Int):=by
    rw[je _ ⟨by omega,by omega⟩,v.o,<-bitLen_eq x j];omega
   exact congrArg (λz=>ai (O av z)) e
def aIT(n:Nat):Nat:=if 8192<ac n then 0 else n
def aEy(n:Nat):aw:=if 8192<ac n then .iface 29 (O av 11)else bw
def wR(h:ac n<=8192):aIT n=n:=if_neg (by omega)
def aCw(h:ac n<=8192):aEy n=bw:=if_neg (by omega)
def nQ(a:Option bj)(k c:Nat)(n:Nat)(w:K)(h:Wds w (I a k c) (S n))(m:(S n).length<=4294967296):ah ae 248 #[Y #[I a k c]] w λe w'=>
 pB w (aIT n) (aEy n) e w':=by
 unfold aIT aEy;have j:Wds ((w.alloc (U #[I a k c] 381)).alloc (U #[()] 381)) (I a k c) (S n):=h.A4 (((E _ _).alloc (H _) _).alloc (by simp) _)
 by_cases g:8192<ac n
 all_goals
  simp only[g,if_true,if_false];go_enter func248,ntmps248;go_wp2_with fail;refine(wH a k c n _ j m).mono ?_;rintro e w1 ⟨rfl,l⟩;obtain⟨i,d,b,-⟩:=after2 l;have q:=G i;have f:=G d;have o:=bm d;have p:(8192:Int)<(ac n:Int)\/¬(8192:Int)<(ac n:Int):=by omega
  go_wp2
 .refine ak (v:=af #[Y #[()],.iface 29 (O av 11)]) (by simp[ao,ib,go_sem,f]) rfl ⟨W,0,0,rfl,?_,b.setCell (by simp) _⟩;rw[dx];exact Wds.nil _
 .refine ak (v:=af #[Y #[I a k c],bw]) (by simp[ao,ib,go_sem,f]) rfl ⟨a,k,c,rfl,?_,b.setCell (by simp) _⟩;exact(h.A4 b).B5 d (by decide) _ _
def wS(a:Option bj)(k c:Nat)(l:List Nat)(i:Int)(w:K)(h:Wds w (I a k c) l)(hi:0<=i)(s:i<=4294967296):ah ae 278 #[Y #[I a k c],i] w λe w'=>
 e=ai (O J (l.getD i.toNat 0:Nat))/\V w w w':=by
 obtain⟨i,rfl⟩:=Int.eq_ofNat_of_zero_le hi;rw[ie];rcases h.B6 with⟨o,rfl⟩|⟨g,cap,o,p,t,q,b⟩
 .injection o with m j n
  subst m j n;go_enter gj,gk;go_wp2;go_ret;exact⟨by simp,(E _ _).alloc (H _) _⟩
 .injection o with m j n
  subst m j n
  by_cases f:i<l.length
  .have r:(w.alloc (U #[I g l.length c] 381)).cell? ⟨g,i,W⟩=Z (O J (l.getD i 0:Nat)):=by
    rw[fa _ _ ⟨g,_,W⟩ (by simpa using p)];exact b _ f
   clear b h;generalize d:l.getD i 0=x at*;clear d;go_enter gj,gk;go_wp2;go_ret;exact⟨rfl,(E _ _).alloc (H _) _⟩
  .have d:l.getD i 0=0:=by simp[bc,gz (by omega:l.length<=i)]
   rw[d];clear b h d;go_enter gj,gk;go_wp2;go_ret;exact⟨rfl,(E _ _).alloc (H _) _⟩
def rP(a:Option bj)(c n:Nat)(i:Int)(w:K)(h:Wds w (I a (S n).length c) (S n))(hi:0<=i)(r:i<=4294967296):ah ae 257 #[Y #[I a (S n).length c],i] w λe w'=>
 e=ai (cg (n.testBit i.toNat))/\V w w w':=by
 have k:0<=i/64:=by omega
 have f:i/64<=4294967296:=by omega
 go_enter func257,ntmps257;go_wp2_with fail;refine(wS a _ c (S n) (i/64) _ (h.A4 ((E _ _).alloc (H _) _)) k f).mono ?_;rintro e w1 ⟨rfl,p⟩;obtain⟨_,j,_⟩:=after1 p;rw[ek]
 have d:((n/18446744073709551616^(i/64).toNat%18446744073709551616/2^(i%64).toNat)%2==1)=n.testBit i.toNat:=by
  have e:∀y m:Nat,(y/2^m%2==1)=y.testBit m:=λy m=>by rw[ig];rfl
  rw[e,show(18446744073709551616:Nat)=2^64 by decide,<-Nat.pow_mul,Nat.testBit_mod_two_pow,Nat.testBit_div_two_pow,decide_eq_true (by omega),Bool.true_and];congr 1;omega
 have o:n/18446744073709551616^(i/64).toNat%18446744073709551616<18446744073709551616:=bx _ (by decide);have g:=A d;clear d h;generalize n/18446744073709551616^(i/64).toNat%18446744073709551616=x at*;go_wp2;go_ret;rw[<-g.o];refine⟨congrArg (λb=>ai (cg b)) (a₁:=(cj fg J ((x:Int)/2^(i%64).toNat) 1==1)) ?_,j⟩;have l:x/2^(i%64).toNat<=x:=fh _ _
 have e:cj fg J ((x:Int)/2^(i%64).toNat) 1=((x/2^(i%64).toNat%2:Nat):Int):=by
  have q:(x:Int)/2^(i%64).toNat=((x/2^(i%64).toNat:Nat):Int):=by simp
  rw[q];generalize x/2^(i%64).toNat=y at l⊢;rw[and_one_u64 _ (by omega) (by omega)];omega
 rw[e,em];simp only[beq_iff_eq];generalize x/2^(i%64).toNat=y;omega
def gS(a:k<l.length):X (l.take (k+1))=X (l.take k)+18446744073709551616^k*l.getD k 0:=by
 rw[List.take_succ_eq_append_getElem a,ck,List.length_take,Nat.min_eq_left (by omega)];simp[X,bc,dh a]
def aEz{v f:Nat}(h:v+P*b=t*d+a)(i:f+18446744073709551616*hi=x*d)(g:s+18446744073709551616*c=f+b):
 v+P*s+P*18446744073709551616*(hi+c)=(t+P*x)*d+a:=by
 have e:s+18446744073709551616*(hi+c)=b+x*d:=by omega
 rw[bp P,fi,<-ar,e,ar,fj,bp];omega
def aAH(v:aw)(l:List Nat)(d j:Nat)(w:K)(a0:Wds w v l)(hs:aj l)(hd:d<18446744073709551616)(T:j<18446744073709551616)(hl:l.length<=4294967296):
 ah ae 247 #[v,O J d,O J j] w λe w'=>∃a c r,e=ai (I a r.length c)/\Wds w' (I a r.length c) r/\aj r/\X r=X l*d+j/\r.length=l.length+1/\V w w w':=by
 obtain⟨va,vc,rfl⟩:=bz a0;obtain⟨i0,z0,h0,h4,L,N,-⟩:=nP.2;have h5:i0.bytes*(l.length+1)<=281474976710656:=by rw[N];omega
 go_enter func247,ntmps247
 go_wp2_with (at_make;refine ii _ rfl _ _ 379 rfl w.heap.size 30 i0 z0 1 ew h0 h4 L _ _ _ (l.length+1) rfl rfl ?c1 h5 ?c2 (H _) ?_)
 case c1=>omega
 case c2=>unfold au;omega
 intro w1 h f;go_wp2
 go_loopw [7,19,2,9,10,11,12] (λo i m _ _ _ _ wr=>∃(k t:Nat)(r:List Nat),k<=l.length/\i=O av k/\m=O J t/\t<18446744073709551616/\Row w.heap.size 30 kC wr o r/\V w w wr/\r.length=k/\aj r/\
  X r+18446744073709551616^k*t=X (l.take k)*d+j) (λ_ i _ _ _ _ _ _=>l.length-(ag i).toNat)
 case atStart=>exact⟨0,j,[],bh _,rfl,rfl,T,h,(E _ _).grown f (H _) (λk e=>by cases e),rfl,(λx hx=>by cases hx),by simp[X]⟩
 case round=>
  obtain⟨k,t,r,R,rfl,rfl,P,n,p,u,Q,q⟩:=hrel;have HV:=A q;clear q;have B:=A u;clear u;clear h f
  by_cases u:k<l.length
  .rcases Wds.B6 a0 with⟨_,hn⟩|⟨g,cap,he,hg,_,_,f⟩
   .subst hn;simp at u
   .injection he with h1 h h3
    subst h1 h3;have hx:l.getD k 0<18446744073709551616:=hs _ (by rw[bc,dh u];exact ej _);have h6:wr.cell? ⟨g,k,W⟩=Z (O J (l.getD k 0:Nat)):=(p.cell (by simpa using hg)).trans (f k u);clear f;have f:=gS u;generalize q:l.getD k 0=x at*;have HT:=A f;clear f q h;go_wp2_with fail;refine(pX x d hx hd _).mono ?_;rintro e w' ⟨hi,lo,rfl,rfl,f,z,h7⟩;obtain⟨s,cy,h,h8,h9,C⟩:=mR lo t z P;have HM:=A f;have HA:=A h;clear f h;have q:V w w (wr.alloc (U #[O J s] 30)):=p.alloc p.size _
    go_wp2_with (at_builtin;refine cV nP rfl _ _ rfl rfl (n.A6 _) ⟨wr.heap.size,0,W⟩ 1 s rfl ?a1 rfl ?a2 ?a3 ?a4 ?_)
    case a1=>simp
    case a2=>have:=B.o;omega
    case a3=>have:=B.o;unfold au;omega
    case a4=>exact q.size
    intro b cap w2 h f;have D:V w w w2:=q.grown f q.size (λk R=>(n.lt k R).1);have F:=A h;clear h f n;go_wp2
    go_roundw
    case rel=>
     refine⟨k+1,hi+cy,r++ [s],by omega,by go_num,by go_num,by omega,F.o,D,by simp[B.o],co.2 ⟨Q,λy hy=>by simp at hy;omega⟩,?_⟩;rw[HT.o,ck,B.o,ba];simp only[X,ee,cw];exact aEz HV.o HM.o HA.o
    case measure=>simp[ag];omega
  .have z:k=l.length:=by omega
   have C:X (r++ [t])=X l*d+j:=by
    have:=HV.o;rw[z,eo]at this;rw[ck,B.o,z]
    simpa[X]using this
   have HF:=A C;have HK:=A z;clear C z;have q:V w w (wr.alloc (U #[O J t] 30)):=p.alloc p.size _
   go_wp2_with (at_builtin;refine cV nP rfl _ _ rfl rfl (n.A6 _) ⟨wr.heap.size,0,W⟩ 1 t rfl ?b1 rfl ?b2 ?b3 ?b4 ?_)
   case b1=>simp
   case b2=>have:=B.o;omega
   case b3=>have:=B.o;unfold au;omega
   case b4=>exact q.size
   intro b cap w2 h f;have D:V w w w2:=q.grown f q.size (λk R=>(n.lt k R).1);have z:(r++ [t]).length=l.length+1:=by simp[B.o,HK.o]
   have F:=A h;have C:=A z;clear h f n z;go_wp2;go_ret;have e:r.length+1=(r++ [t]).length:=by simp
   refine⟨Z ⟨b,0,W⟩,cap,r++ [t],?_,?_,co.2 ⟨Q,λy hy=>by simp at hy;omega⟩,HF.o,C.o,D⟩
   .rw[<-e];rfl
   .rw[<-e];exact F.o.D6 (bh _)
def aEA(a:Option bj)(k c n d:Nat)(w:K)(Q:Wds w (I a k c) (S n))(z:d<18446744073709551616)(R:(S n).length<=4294967295):
 ah ae 272 #[Y #[I a k c],O J d] w λe w'=>
  pB w (aIT (n*d)) (aEy (n*d)) e w':=by
 have s:Wds ((w.alloc (U #[I a k c] 381)).alloc (U #[()] 381)) (I a k c) (S n):=Q.A4 (((E _ _).alloc (H _) _).alloc (by simp) _);go_enter func272,ntmps272;go_wp2_with fail;refine(aAH _ (S n) d 0 _ s (dl n) z (by decide) (by omega)).mono ?_;rintro e w1 ⟨a1,c1,r,rfl,t,g,b,f,B⟩;obtain⟨C,j,l,D⟩:=after2 B;rw[ep,cw]at b;have u:=A b;have F:=A f;clear b f;go_wp2_with fail;refine(jW _ r _ g t).mono ?_;rintro e w2 ⟨a2,L,c2,rfl,m,h⟩;rw[u.o]at m
 have b:(S (n*d)).length<=4294967296:=by
  have f:=gl g;rw[u.o]at f;have:=gm f;have:=F.o;omega
 go_wp2_with fail;refine(nQ a2 L c2 (n*d) _ m b).mono ?_;rintro e T ⟨a3,x,y,rfl,f,i⟩;have o:=keep (keep j h) i;have p:=G o;have N:=bm o;have q:=chain (chain l h) i;have P:=A f;clear f m t s;go_wp2;exact ak (v:=af #[Y #[I a3 x y],aEy (n*d)]) (by simp[ao,results272,go_sem,p]) rfl ⟨a3,x,y,rfl,P.o.B5 o (by decide) _ _,q.setCell (by simp) _⟩
def aG9(b n:Nat)(w:K)(g3:2<=b)(s:b<18446744073709551616)(hn:n<=8192)(d:ac (b^n)<=8192):
 ah ae 251 #[O J b,n] w λe w'=>pB w (b^n) bw e w':=by
 have f:=aBq 1;have m:=A f;clear f;rcases fc n with rfl|Q
 .simp only[ga];go_enter func251,ntmps251;go_wp2_with fail;refine(m.o _ (by decide)).mono ?_;rintro e w1 ⟨a,k,c,rfl,f,t⟩;obtain⟨g,h,-⟩:=after1 t;have l:=G g;have o:=bm g;have u:=A f;clear f;go_wp2;exact ak (v:=af #[Y #[I a k c],bw]) (by simp[ao,ij,go_sem,l]) rfl ⟨a,k,c,rfl,u.o.B5 g (by decide) _ _,h.setCell (by simp) _⟩
 .have g5:((n:Int)==0)=dm:=by simp;omega
  have R:¬(b:Int)<2:=by omega
  go_enter func251,ntmps251;go_wp2_with fail;refine(m.o _ (by decide)).mono ?_;rintro e w1 ⟨a,k,c,rfl,f,t⟩;obtain⟨g,h,g7⟩:=after1 t;have u:=A f;clear f;have p:w.heap.size≠w1.heap.size:=by omega
  have l:(w1.alloc (U #[I a k c] 381)).heap[w1.heap.size]?=Z (U #[I a k c] 381 (0,0)):=dp w1 _;have o:(w1.alloc (U #[I a k c] 381)).heap[w.heap.size]?=Z (U #[()] 381 (0,0)):=(eh w1 _ _ (by omega)).trans g;have f:∀j,j<=n->ac (b^j)<=8192:=λj T=>bu (Lim.bitlen_mono (cr (by omega) T)) d
  have x:=A f;have H6:=A l;have H4:=A o;have HP:=A p;clear f d l o g p;go_wp2
  go_loopw [30,7,8] (λi _ _ wr=>∃(j:Nat)(a:Option bj)(k c:Nat),j<=n/\i=O av j/\wr.heap[w1.heap.size]?=Z (U #[I a k c] 381 (0,0))/\wr.heap[w.heap.size]?=Z (U #[()] 381 (0,0))/\
   Wds wr (I a k c) (S (b^j))/\V w w wr) (λi _ _ _=>n-(ag i).toNat)
  case atStart=>exact⟨0,a,k,c,by omega,rfl,H6.o,H4.o,u.o.A4 ((E _ _).alloc (H _) _),h.alloc (by omega) _⟩
  case round=>
   obtain⟨j,y,z,B,T,rfl,C,o,g,d⟩:=hrel;have D:=G C;have F:=G o;have g8:=bm o
   by_cases g9:j<n
   .go_wp2_with fail;refine(aEA y z B (b^j) b _ g s (bu (fk (k:=128) (x.o j (by omega))) (by decide))).mono ?_;rintro e w2 ⟨a2,k2,c2,rfl,l,f⟩;have L:b^j*b=b^(j+1):=(ba b j).symm;rw[L,wR (x.o (j+1) (by omega))]at l;rw[L,aCw (x.o (j+1) (by omega))];have p:=keep C f;have N:=keep o f;have gb:=chain d f;have P:=A l;have D:=G p;have h0:=bm p;have q:w1.heap.size<w2.heap.size:=di p;have r:w.heap.size<w2.heap.size:=di N;clear l L g d;have l:=A p;have L:=A N;clear p N C o;go_wp2
    go_roundw
    case rel=>
     exact⟨j+1,a2,k2,c2,by omega,by go_num,(eh _ _ _ (by simpa using q)).trans (aB l.o _),(eh _ _ _ (by simpa using r)).trans ((aE _ HP.o).trans L.o),
      (P.o.B5 l.o (by decide) _ _).A6 _,(gb.setCell (by simp;omega) _).alloc (by simp;omega) _⟩
    case measure=>simp[ag];omega
   .have e:j=n:=by omega
    have l:=A e;have f:=A g;clear e g;go_wp2_with fail;rw[l.o]at f;exact ak (v:=af #[Y #[I y z B],bw]) (by simp[ao,ij,go_sem,F]) rfl ⟨y,z,B,rfl,f.o.B5 o (by decide) _ _,d.setCell (by simp) _⟩
def aEB{v:Nat}(h:v+P*b=2*t+a)(c:s+18446744073709551616*q=2*x+b):v+P*s+P*18446744073709551616*q=2*(t+P*x)+a:=by
 rw[bp P,fi,<-ar,c,ar,ar,dq];omega
def aKR(x c:Nat)(e:x<18446744073709551616)(d:c<=1):∃s:Nat,cj dt J (J.wrap ((x:Int)*2)) (c:Int)=s/\s<18446744073709551616/\s+18446744073709551616*(x/9223372036854775808)=2*x+c:=by
 have b:J.wrap ((x:Int)*2)=((2*(x%9223372036854775808):Nat):Int):=by
  rw[et];omega
 have a:2*(x%9223372036854775808)||| c=2*(x%9223372036854775808)+c:=(fm (i:=1) (by omega) (x%9223372036854775808)).symm
 refine⟨2*(x%9223372036854775808)+c,?_,by omega,by omega⟩;rw[b,eu _ _ (by omega) (by omega),a]
def aHa(a:Option bj)(k c n:Nat)(b:Bool)(w:K)(a0:Wds w (I a k c) (S n))(hl:(S n).length<=4294967295):
 ah ae 275 #[Y #[I a k c],b] w λe w'=>aBp w (2*n+b.toNat) e w':=by
 obtain⟨va,vc,he⟩:=bz a0;injection he with h1 q h3
 subst h1 q h3;obtain⟨i0,z0,g6,g7,N,P,-⟩:=nP.2;generalize f:S n=l at*;have g8:aj l:=f▸dl n;have d:X l=n:=f▸ep n;have g9:=A d;clear f d;have h0:i0.bytes*(l.length+1)<=281474976710656:=by rw[P];omega
 obtain⟨p,d,h4⟩:∃m:Nat,b.toNat=m/\m<=1:=⟨b.toNat,rfl,by cases b<;>decide⟩;have h5:=A d;rw[d];clear d;cases b
 all_goals
  go_enter func275,ntmps275
  go_wp2_with (at_make;refine ii _ rfl _ _ 379 rfl (w.heap.size+2) 30 i0 z0 1 ew g6 g7 N _ _ _ (l.length+1) rfl rfl ?_ h0 ?_ ?_ ?_)
  .omega
  .unfold au;omega
  .simp
  intro w1 f d;obtain⟨g1,h,Q,h6⟩:=after2 ((E _ _).grown d (H _) (λk e=>by cases e));have h8:=G g1;have G1:=A g1;have G2:=A h;have HO:M (Row (w.heap.size+2) 30 kC w1 (I (w.heap.size+1+1,0) 0 (l.length+1)) []):=f;clear f d g1 h;go_wp2
  go_loopw [5,18,6,8] (λo i m _ wr=>∃(k t:Nat)(r:List Nat),k<=l.length/\i=O av k/\m=O J t/\t<=1/\Row (w.heap.size+2) 30 kC wr o r/\V (w.heap.size+2) w1 wr/\r.length=k/\aj r/\
   X r+18446744073709551616^k*t=2*X (l.take k)+p) (λ_ i _ _ _=>l.length-(ag i).toNat)
  case atStart=>exact⟨0,p,[],bh _,rfl,by rw[<-h5.o];rfl,h4,HO.o,E _ _,rfl,(λx hx=>by cases hx),by simp[X]⟩
  case round=>
   obtain⟨k,t,r,hk,rfl,rfl,R,h,j,f,T,d⟩:=hrel;have HV:=A d;have C:=A f;clear d f;have z:w.heap.size+2<=wr.heap.size:=bu h6 j.size
   by_cases u:k<l.length
   .rcases Wds.B6 a0 with⟨_,B⟩|⟨g,cap,he,L,_,_,d⟩
    .subst B;simp at u
    .injection he with h1 q h3
     subst h1 h3;have hx:l.getD k 0<18446744073709551616:=g8 _ (by rw[bc,dh u];exact ej _);have h7:wr.cell? ⟨g,k,W⟩=Z (O J (l.getD k 0:Nat)):=(j.cell (by simp;omega)).trans ((Q.cell L).trans (d k u));clear d;have d:=gS u;generalize f:l.getD k 0=x at*;have HT:=A d;clear d f q;obtain⟨s,h9,i1,d⟩:=aKR x t hx R;have HS:=A d;clear d;have D:V (w.heap.size+2) w1 (wr.alloc (U #[O J s] 30)):=j.alloc z _
     go_wp2_with (at_builtin;refine cV nP rfl _ _ rfl rfl (h.A6 _) ⟨wr.heap.size,0,W⟩ 1 s rfl ?_ rfl ?_ ?_ ?_ ?_)
     .simp
     .have:=C.o;omega
     .have:=C.o;unfold au;omega
     .simp;omega
     intro b cap w2 f d;have q:V (w.heap.size+2) w1 w2:=D.grown d (by simp;omega) (λk hk=>(h.lt k hk).1);have F:=A f;clear f d h;go_wp2
     go_roundw
     case rel=>
      refine⟨k+1,x/9223372036854775808,r++ [s],by omega,by go_num,by go_num,by omega,F.o,q,by simp[C.o],co.2 ⟨T,λy hy=>by simp at hy;omega⟩,?_⟩;rw[HT.o,ck,C.o,ba];simp only[X,ee,cw];exact aEB HV.o HS.o
     case measure=>simp[ag];omega
   .have L:k=l.length:=by omega
    have B:X (r++ [t])=2*n+p:=by
     have:=HV.o;rw[L,eo,g9.o]at this;rw[ck,C.o,L]
     simpa[X]using this
    have HF:=A B;clear B L;have D:V (w.heap.size+2) w1 (wr.alloc (U #[O J t] 30)):=j.alloc z _
    go_wp2_with (at_builtin;refine cV nP rfl _ _ rfl rfl (h.A6 _) ⟨wr.heap.size,0,W⟩ 1 t rfl ?_ rfl ?_ ?_ ?_ ?_)
    .simp
    .have:=C.o;omega
    .have:=C.o;unfold au;omega
    .simp;omega
    intro b cap w2 f d;have q:V (w.heap.size+2) w1 w2:=D.grown d (by simp;omega) (λk hk=>(h.lt k hk).1);have F:=A f;clear f d h;have g4:w2.heap[w.heap.size+1]?=Z (U #[()] 381 (0,0)):=(q.block _ (by omega)).trans G2.o;have f:V w w w2:=Q.trans (q.mono (by omega));go_wp2_with fail;refine(jW _ (r++ [t]) _ (co.2 ⟨T,λy hy=>by simp at hy;omega⟩) (F.o.D6 (bh _))).mono ?_;rintro e w3 ⟨a3,k3,c3,rfl,h,d⟩;rw[HF.o]at h;have B:=keep g4 d;have L:=G B;have h9:=bm B;have h7:=chain f d;have HM:=A h;clear h g4 q;go_wp2;exact ak (v:=Y #[I a3 k3 c3]) (by simp[ao,results275,go_sem,L]) rfl ⟨a3,k3,c3,rfl,HM.o.B5 B (by decide) _ _,h7.setCell (by simp) _⟩
def rQ(n m:Nat):Int:=if n<m then -1 else if m<n then 1 else 0
def aIU(h:n/18446744073709551616^(k+1)=m/18446744073709551616^(k+1)):
 (n/18446744073709551616^k%18446744073709551616<m/18446744073709551616^k%18446744073709551616->n<m)/\
 (m/18446744073709551616^k%18446744073709551616<n/18446744073709551616^k%18446744073709551616->m<n)/\
 (n/18446744073709551616^k%18446744073709551616=m/18446744073709551616^k%18446744073709551616->n/18446744073709551616^k=m/18446744073709551616^k):=by
 rw[ba,<-du,<-du]at h;have a1:m<=n->m/18446744073709551616^k<=n/18446744073709551616^k:=λh=>ik h
 have a2:n<=m->n/18446744073709551616^k<=m/18446744073709551616^k:=λh=>ik h
 generalize n/18446744073709551616^k=N at*;generalize m/18446744073709551616^k=c at*;refine⟨λb=>?_,λb=>?_,λb=>by omega⟩
 .rcases il n m with a|a
  .exact a
  .have:=a1 a;omega
 .rcases il m n with a|a
  .exact a
  .have:=a2 a;omega
def rR(a:Option bj)(k c:Nat)(n x:Nat)(i:Nat)(w:K)(h:Wds w (I a k c) (S n))(b:(i:Int)<=4294967296)(d:n/18446744073709551616^i%18446744073709551616=x):ah ae 278 #[Y #[I a k c],i] w λe w'=>
 e=ai (O J x)/\V w w w':=by
 have:=wS a k c (S n) i w h (by omega) b;rw[ie,ek,d]at this;exact this
def aGy(a l:Option bj)(k k' c o n m:Nat)(w:K)(f:Wds w (I a k c) (S n))(b:Wds w (I l k' o) (S m))(hl:(S n).length<=4294967295)(g5:(S m).length<=4294967295):
 ah ae 276 #[Y #[I a k c],Y #[I l k' o]] w λe w'=>e=ai (O av (rQ n m))/\V w w w':=by
 obtain⟨va,vc,Q⟩:=bz f;injection Q with R T h3
 subst R T h3;obtain⟨g6,g7,Q⟩:=bz b;injection Q with R T h3
 subst R T h3
 have d:n/18446744073709551616^(max (S n).length (S m).length)=m/18446744073709551616^(max (S n).length (S m).length):=by
  rw[ei (dv (Nat.le_max_left _ _)),ei (dv (Nat.le_max_right _ _))]
 have HZ:=A d;clear d;have u:V w w ((w.alloc (U #[I a (S n).length c] 381)).alloc (U #[I l (S m).length o] 381)):=((E _ _).alloc (H _) _).alloc (by simp) _;have a0:=A f;have H':=A b;clear f b;generalize d:(S n).length=L at*;generalize b:(S m).length=t at*;have g8:=A b;clear d b;go_enter func276,ntmps276;go_wp2
 go_loopw [5,6,7] (λi _ _ wr=>∃(k:Nat),k<=max L t/\i=O av ((k:Int)-1)/\n/18446744073709551616^k=m/18446744073709551616^k/\V w w wr/\
  wr.heap[w.heap.size]?=Z (U #[I a L c] 381 (0,0))/\wr.heap[w.heap.size+1]?=Z (U #[I l t o] 381 (0,0))) (λi _ _ _=>(ag i+1).toNat)
 case atStart=>exact⟨max L t,H _,by simp;omega,HZ.o,u,(eh _ _ _ (by simp)).trans (dp w _),by simpa using dp (w.alloc (U #[I a L c] 381)) (U #[I l t o] 381)⟩
 case round=>
  obtain⟨k,hk,rfl,b,d,g1,v⟩:=hrel;have B:=G g1;have C:=G v;have HQ:=A b;clear b;have q:w.heap.size<wr.heap.size:=di g1;have r:w.heap.size+1<wr.heap.size:=di v;rcases fc k with rfl|g9
  .have f:rQ n m=0:=by have:=HQ.o;simp at this;subst this;simp[rQ]
   have D:=A f;clear f;simp only[ga]at*;go_wp2;go_ret;rw[D.o];exact⟨rfl,d⟩
  .obtain⟨j,rfl⟩:∃j,k=j+1:=⟨k-1,by omega⟩;have b:((j+1:Nat):Int)-1=(j:Int):=by omega
   rw[b];clear b;have s:(j:Int)<=4294967296:=by omega
   have HW:M (∀F,V w w F->Wds F (I a L c) (S n)/\Wds F (I l t o) (S m)):=λF g=>⟨a0.o.A4 g,H'.o.A4 g⟩
   have b:=aIU HQ.o;obtain⟨x,g⟩:∃x,n/18446744073709551616^j%18446744073709551616=x:=⟨_,rfl⟩;obtain⟨y,z⟩:∃y,m/18446744073709551616^j%18446744073709551616=y:=⟨_,rfl⟩;rw[g,z]at b;have HX:=A g;have HY:=A z;have h:=A b;clear g z b;have G1:=A g1;have G2:=A v;clear g1 v u;go_wp2
   go_region_held3 (λw'=>w'.cell? w=Z (I a L c)/\w'.cell? ⟨w.heap.size+1,0,W⟩=Z (I l t o)) (first|exact⟨u,v⟩|exact⟨N,P⟩|go_keep)
    (first|(go_at_call 278;(with_reducible refine(rR a L c n x j _ (HW.o _ d.drew).1 s HX.o).mono ?_);rintro e F ⟨rfl,b⟩;have u:=(b.cell (p:=w) (by simpa using q)).trans B;have v:=(b.cell (p:=⟨w.heap.size+1,0,W⟩) (by simpa using r)).trans C)|(go_at_call 278;(with_reducible refine(rR l t o m y j _ (HW.o _ (chain d.drew b)).2 s HY.o).mono ?_);rintro e z ⟨rfl,g⟩;have N:=(g.cell (p:=w) (by simpa using ev q b.size)).trans u;have P:=(g.cell (p:=⟨w.heap.size+1,0,W⟩) (by simpa using ev r b.size)).trans v))
   have z:=chain (chain d.drew b) g;have g3:=A (keep (keep (w1:=wr.drew) G1.o b) g);have g4:=A (keep (keep (w1:=wr.drew) G2.o b) g);clear b g u v N P B C d;rcases im x y with b|b|b
   .have f:rQ n m= -1:=by unfold rQ;rw[if_pos (h.o.1 b)]
    have D:=A f;clear f;go_wp2;go_ret;rw[D.o];exact⟨rfl,z⟩
   .subst b;go_wp2
    go_roundw
    case rel=>exact⟨j,by omega,rfl,h.o.2.2 rfl,z,g3.o,g4.o⟩
    case measure=>simp[ag]
   .have f:rQ n m=1:=by unfold rQ;rw[if_neg (by have:=h.o.2.1 b;omega),if_pos (h.o.2.1 b)]
    have D:=A f;clear f;go_wp2;go_ret;rw[D.o];exact⟨rfl,z⟩
def nR(n k:Nat):n%18446744073709551616^(k+1)=n%18446744073709551616^k+18446744073709551616^k*(n/18446744073709551616^k%18446744073709551616):=Nat.mod_pow_succ
def aIV{v:Nat}(h:v+q=t+P*b)(c:s+y+b=x+18446744073709551616*a):(v+P*s)+(q+P*y)=(t+P*x)+P*18446744073709551616*a:=by
 have e:P*s+P*y+P*b=P*x+P*(18446744073709551616*a):=by rw[<-ar,<-ar,<-ar,c]
 rw[bp P];omega
def aKS(w:K)(n:Nat)(e:dw)(w':K):Prop:=∃a k c,e=ai (af #[Y #[I a k c],bw])/\Row w.heap.size 30 kC w' (I a k c) (S n)/\V w w w'
def aKT(a Q:Option bj)(k k' c R n m:Nat)(w:K)(a0:Wds w (I a k c) (S n))(h:Wds w (I Q k' R) (S m))(hl:(S n).length<=4294967295)(h5:(S m).length<=4294967295)(i7:m<=n):
 ah ae 277 #[Y #[I a k c],Y #[I Q k' R]] w λe w'=>aKS w (n-m) e w':=by
 obtain⟨va,vc,he⟩:=bz a0;injection he with t u D
 subst t u D;obtain⟨i8,i9,he⟩:=bz h;injection he with t u D
 subst t u D;have f:V w w (((w.alloc (U #[I a (S n).length c] 381)).alloc (U #[I Q (S m).length R] 381)).alloc (U #[()] 381)):=(((E _ _).alloc (H _) _).alloc (by simp) _).alloc (by simp;omega) _;have d:rQ n m=0\/rQ n m=1:=by unfold rQ;rw[if_neg (by omega)];split<;>simp
 obtain⟨z,j,j0⟩:∃z,rQ n m=z/\0<=z:=⟨_,rfl,by omega⟩;have HZ:=A j;clear j d;have j:=aGy a Q _ _ c R n m _ (a0.A4 f) (h.A4 f) hl h5;rw[HZ.o]at j;have a1:=A a0;have H':=A h;have d:=a0.B6;have h6:=A d;clear a0 h d;have d:=dv (n:=n) (H _);have h7:=A d;clear d;have d:∀i,(S n).getD i 0=n/18446744073709551616^i%18446744073709551616:=ek n;have g8:=A d;clear d;generalize h:S n=l at*;have h8:aj l:=h▸dl n;generalize d:(S m).length=L' at*;clear h d;have h9:=A j;clear j;go_enter func277,ntmps277;go_wp2_with fail;refine(h9.o).mono ?_;rintro e w1 ⟨rfl,hb⟩;obtain⟨g1,d,h,F,i0⟩:=tQ hb;have q:=G g1;have G1:=A g1;have G2:=A d;have G3:=A h;clear g1 d h f;go_wp2
 go_loopw [19,6,7,8,9] (λi o b _ _ wr=>∃(k B:Nat)(r:List Nat),k<=l.length/\i=O av k/\b=O J B/\B<=1/\Row (w.heap.size+3) 30 kC wr o r/\V (w.heap.size+3) w1 wr/\r.length=k/\aj r/\
  X r+m%18446744073709551616^k=n%18446744073709551616^k+18446744073709551616^k*B) (λi _ _ _ _ _=>l.length-(ag i).toNat)
 case atStart=>exact⟨0,0,[],bh _,rfl,rfl,by omega,ez _ _ _ _,E _ _,rfl,(λx hx=>by cases hx),by simp[X];omega⟩
 case round=>
  obtain⟨k,B,r,hk,rfl,rfl,i1,h,d,j,L,f⟩:=hrel;have HV:=A f;have HR:=A j;clear f j;have C:w.heap.size+3<=wr.heap.size:=bu i0 d.size;have q:=G ((d.block _ (by omega)).trans G1.o);have g9:=G ((d.block _ (by omega)).trans G2.o)
  by_cases N:k<l.length
  .rcases h6.o with⟨_,hn⟩|⟨g,cap,he,hg,_,_,f⟩
   .subst hn;simp at N
   .injection he with t u D
    subst t D;have hx:l.getD k 0<18446744073709551616:=h8 _ (by rw[bc,dh N];exact ej _);have h0:wr.cell? ⟨g,k,W⟩=Z (O J (l.getD k 0:Nat)):=(d.cell (by simp;omega)).trans ((F.cell hg).trans (f k N));clear f;have f:=g8.o k;generalize l.getD k 0=x at*;have HX:=A f;clear f u;obtain⟨y,T⟩:∃y,m/18446744073709551616^k%18446744073709551616=y:=⟨_,rfl⟩;have i2:y<18446744073709551616:=T▸bx _ (by decide);have f:=rR Q L' R m y k wr.drew (H'.o.A4 (F.trans (d.mono (by omega))).drew) (by omega) T;have i3:=A f;have HY:=A T;clear f T;obtain⟨s,b2,f,j1,i4,i6⟩:=zZ x y B hx i2 i1;have HS:=A f;clear f;go_wp2
    go_region_held3 (λw'=>w'.cell? w=Z (I g l.length c)/\w'.cell? ⟨w.heap.size+1,0,W⟩=Z (I Q L' R)/\w'.cell? ⟨g,k,W⟩=Z (O J x)) (first|exact⟨f,P,h4⟩|go_keep)
     ((go_at_call 278;(with_reducible refine(i3.o).mono ?_);rintro e wx ⟨rfl,j⟩;have f:=(j.cell (p:=w) (by simp;omega)).trans q;have P:=(j.cell (p:=⟨w.heap.size+1,0,W⟩) (by simp;omega)).trans g9;have h4:=(j.cell (p:=⟨g,k,W⟩) (by simp;omega)).trans h0))
    have f:Row (w.heap.size+3) 30 kC wx _ r:=ft (w:=wr.drew) h.B0 j;have P:V (w.heap.size+3) w1 wx:=d.drew.trans (j.mono C);have h4:w.heap.size+3<=wx.heap.size:=bu C j.size;clear h d h0 q g9;have g9:V (w.heap.size+3) w1 (wx.alloc (U #[O J s] 30)):=P.alloc h4 _
    go_wp2_with (at_builtin;refine cV nP rfl _ _ rfl rfl (f.A6 _) ⟨wx.heap.size,0,W⟩ 1 s rfl ?_ rfl ?_ ?_ ?_ ?_)
    .simp
    .have:=HR.o;omega
    .have:=HR.o;unfold au;omega
    .simp;omega
    intro b cap w2 q j;have h0:V (w.heap.size+3) w1 w2:=g9.grown j (by simp;omega) (λk hk=>(f.lt k hk).1);have i5:=A q;clear q j f;go_wp2
    go_roundw
    case rel=>
     refine⟨k+1,b2,r++ [s],by omega,by go_num,rfl,i4,i5.o,h0,by simp[HR.o],co.2 ⟨L,λy T=>by simp at T;omega⟩,?_⟩;rw[nR n k,nR m k,<-HX.o,HY.o,ck,HR.o,ba];simp only[X,ee,cw];exact aIV HV.o HS.o
    case measure=>simp[ag];omega
  .have j:k=l.length:=by omega
   have f:X r=n-m:=by
    have t:=HV.o;have u:=gl L;have D:=h7.o;rw[HR.o]at u;rw[j]at t u;rw[ct D,ct (by omega)]at t
    have:B=0:=by
     rcases(by omega:B=0\/B=1)with a0|a0
     .exact a0
     .subst a0;omega
    subst this;omega
   have HF:=A f;clear f j;have P:=(d.block _ (by omega)).trans G3.o;have j:V w w wr:=F.trans (d.mono (by omega));go_wp2_with fail;refine(aAG w.heap.size _ r _ L (h.D6 (by omega))).mono ?_;rintro e w3 ⟨a3,T,c3,rfl,q,f⟩;rw[HF.o]at q;have t:=keep P f;have u:=G t;have g9:=bm t;have D:=chain j f;have HM:=A q;clear q P d h;go_wp2;exact ak (v:=af #[Y #[I a3 T c3],bw]) (by simp[ao,results277,go_sem,u]) rfl ⟨a3,T,c3,rfl,HM.o.B5 t (by decide) _ _,D.setCell (by simp;omega) _⟩
def pY(a:k<64):(18446744073709551616:Nat)=2^(64-k)*2^k:=by
 rw[<-cu,Nat.sub_add_cancel (by omega)]
def or0(y:Nat)(a:y<18446744073709551616):cj dt J 0 (y:Int)=y:=by
 have:=eu 0 y (by decide) a
 simpa using this
def aLX(d:x<18446744073709551616)(a:k<64):cj dt J 0 ((x:Int)/2^(64-k))=((x*2^k/18446744073709551616:Nat):Int):=by
 have c:x*2^k/18446744073709551616=x/2^(64-k):=by
  rw[pY a];exact Nat.mul_div_mul_right _ _ (cz k)
 have b:((x:Int)/2^(64-k))=((x/2^(64-k):Nat):Int):=by simp
 rw[c,b,or0 _ (gn (fh _ _) d)]
def aIW(x k:Nat):J.wrap ((x:Int)*2^k)=((x*2^k%18446744073709551616:Nat):Int):=by
 have e:(x:Int)*2^k=((x*2^k:Nat):Int):=by simp
 rw[et,e];generalize x*2^k=y;omega
def aLY{h:Nat}(o:h<18446744073709551616)(d:x<18446744073709551616)(b:k<64):
 cj dt J ((x:Int)/2^k) (J.wrap ((h:Int)*2^(64-k)))=(((h*18446744073709551616+x)/2^k%18446744073709551616:Nat):Int):=by
 rw[aIW];have i:((x:Int)/2^k)=((x/2^k:Nat):Int):=by simp
 have e:0<2^k:=cz k;have c:x/2^k<2^(64-k):=go (by rw[bk,<-pY b];exact d)
 have f:h*2^(64-k)%18446744073709551616=2^(64-k)*(h%2^k):=by
  rw[pY b,bk h,gp]
 have g:(h*18446744073709551616+x)/2^k=h*2^(64-k)+x/2^k:=by
  rw[pY b,<-bp,fe,Nat.add_mul_div_right _ _ e,fe]
 have j:(h*2^(64-k)+x/2^k)%18446744073709551616=2^(64-k)*(h%2^k)+x/2^k:=by
  rw[Nat.add_mod,f,ct (a:=x/2^k) (gn (fh _ _) d),ct];have m:h%2^k+1<=2^k:=bx _ e;have l:=io (2^(64-k)) m;rw[<-pY b,ar,fq]at l;omega
 have n:x/2^k||| 2^(64-k)*(h%2^k)=2^(64-k)*(h%2^k)+x/2^k:=by
  rw[Nat.or_comm];exact(fm c (h%2^k)).symm
 rw[i,eu _ _ (gn (fh _ _) d) (bx _ (by decide)),f,g,j,n]
def aIX(x k:Nat)(w:K)(f:x<18446744073709551616)(b:k<64):ah ae 274 #[Y #[O J 0,O J x],k] w λe w'=>
 e=ai (Y #[O J (x*2^k/18446744073709551616:Nat),O J (x*2^k%18446744073709551616:Nat)])/\V w w w':=by
 have a:min (k:Int) 128=k:=by omega
 have d:=A (aLX f b);have c:=A (aIW x k);go_enter func274,ntmps274;go_wp2;refine ak (v:=Y #[O J (x*2^k/18446744073709551616:Nat),O J (x*2^k%18446744073709551616:Nat)]) ?_ rfl ⟨rfl,((E _ _).alloc (H _) _).alloc (by simp) _⟩;simp only[ao,results274];rw[d.o];simp[go_sem,c.o]
def aCx(h x k:Nat)(w:K)(f:h<18446744073709551616)(g:x<18446744073709551616)(b:k<64):ah ae 279 #[Y #[O J h,O J x],k] w λe w'=>
 (∃c:Nat,e=ai (Y #[O J c,O J ((h*18446744073709551616+x)/2^k%18446744073709551616:Nat)]))/\V w w w':=by
 have a:min (k:Int) 128=k:=by omega
 have d:=A (aLY f g b);go_enter func279,ntmps279;go_wp2;refine ak (v:=Y #[O J (h/2^k:Nat),O J ((h*18446744073709551616+x)/2^k%18446744073709551616:Nat)]) ?_ rfl ⟨⟨_,rfl⟩,((E _ _).alloc (H _) _).alloc (by simp) _⟩;simp only[ao,results279];rw[d.o];simp[go_sem]
def tR(q:Nat)(r:List Nat):X (cv q 0++r)=18446744073709551616^q*X r:=by
 have b:X (cv q 0)=0:=by
  induction q with
  | zero=>rfl
  | succ q a=>simp[List.replicate_succ,X,a]
 rw[ck,b,List.length_replicate,Nat.zero_add]
def nS(q:Nat):aj (cv q 0):=λx a=>by rw[(List.mem_replicate.1 a).2];decide
def aIY(m:x<18446744073709551616)(h:s<64)(e:a<2^s):∃i hi:Nat,x*2^s/18446744073709551616=hi/\hi<2^s/\hi<18446744073709551616/\i<18446744073709551616/\
 cj dt J ((x*2^s%18446744073709551616:Nat):Int) (a:Int)=(i:Int)/\i+18446744073709551616*hi=x*2^s+a:=by
 have k:=cz s
 have l:2^s<18446744073709551616:=by
  have f:2^1<=2^(64-s):=cr (by decide) (by omega);have d:=ip (2^s) f;rw[<-pY h]at d;omega
 have c:x*2^s/18446744073709551616<2^s:=go (Nat.mul_lt_mul_of_pos_right m k)
 have j:x*2^s%18446744073709551616=2^s*(x%2^(64-s)):=by
  rw[pY h,bk x,bk (2^(64-s)),gp]
 have g:x*2^s%18446744073709551616||| a=x*2^s%18446744073709551616+a:=by
  rw[j];exact(fm e (x%2^(64-s))).symm
 have b:x*2^s%18446744073709551616+a<18446744073709551616:=by
  rw[j];have f:x%2^(64-s)+1<=2^(64-s):=bx _ (cz _);have d:=io (2^s) f;rw[bk (2^s) (2^(64-s)),<-pY h,ar,fq]at d;omega
 refine⟨x*2^s%18446744073709551616+a,_,rfl,c,by omega,b,?_,by omega⟩;rw[eu _ _ (bx _ (by decide)) (by omega),g]
def aIZ{v D:Nat}(h:v+P*a=t*D)(c:b+18446744073709551616*hi=x*D+a):v+P*b+P*18446744073709551616*hi=(t+P*x)*D:=by
 rw[bp P,fi,<-ar,c,ar,fj,bp];omega
def aGz(a:Option bj)(kk c n k:Nat)(w:K)(h:Wds w (I a kk c) (S n))(i6:ac n+k<=8192):
 ah ae 253 #[Y #[I a kk c],k] w λe w'=>pB w (n*2^k) bw e w':=by
 have i7:max (k:Int) 0=k:=by omega
 have d:V w w ((w.alloc (U #[I a kk c] 381)).alloc (U #[()] 381)):=((E _ _).alloc (H _) _).alloc (by simp) _
 by_cases hn:n=0
 .subst hn;rw[dx]at h
  have f:kk=0:=by
   rcases h.B6 with⟨Q,_⟩|⟨g,cap,Q,_⟩
   .injection Q
   .injection Q
  subst f;clear h;go_enter func253,ntmps253;go_wp2;exact ak (v:=af #[Y #[()],bw]) (by simp[ao,iq,go_sem]) rfl ⟨W,0,0,rfl,by rw[Nat.zero_mul,dx];exact Wds.nil _,d⟩
 .obtain⟨p,i8⟩:=gh hn;obtain⟨va,vc,Q⟩:=bz h;injection Q with h1 D h3
  subst h1 D h3;have i9:(S n).length<=128:=fk (k:=128) (by omega);have g7:=A (wH a _ c n _ (h.A4 d) (by omega));have h7:=A h.B6;have f:X (S n)=n:=ep n;have h8:=dl n;clear h p;generalize h:S n=l at*;have h9:=A f;clear h f;obtain⟨q,s,f,L⟩:∃q s,k=64*q+s/\s<64:=⟨k/64,k%64,by omega,by omega⟩;have j3:(k:Int)/64=q:=by omega
  have j4:(k:Int)%64=s:=by omega
  have j5:k<=8192:=by omega
  have j6:¬(8192-(ac n:Int)<(k:Int)):=by omega
  have j7:q<=128:=by omega
  have i0:=A f;clear f;generalize f:ac n=bl at*;clear f;have j0:((l.length:Int)==0)=dm:=by rw[beq_eq_false_iff_ne];omega
  go_enter func253,ntmps253;go_wp2_with fail;refine(g7.o).mono ?_;rintro e w1 ⟨rfl,hb⟩;obtain⟨g1,f,i1,i2⟩:=after2 hb;have h:=G g1;have G1:=A g1;have G2:=A f;clear g1 f d
  go_wp2_with (at_make;refine rO (B:=w.heap.size+2) (enc:=kC) 0 aEx rfl _ _ rfl _ _ _ _ q (q+l.length+1) rfl rfl ?_ ?_ ?_ ?_ ?_ ?_ ?_)
  .simp
  .simp
  .omega
  .omega
  .unfold au;omega
  .omega
  intro w2 f d;have j1:=G (keep G1.o d);have j8:=A (keep G1.o d);have i3:=A (keep G2.o d);have N:=chain i1 d;have g8:w.heap.size+2<=w2.heap.size:=bu i2 d.size;have i4:=A f;clear f d h;go_wp2
  go_loopw [40,6,7,9,10] (λi o m _ _ wr=>∃(j z:Nat)(r:List Nat),j<=l.length/\i=O av j/\m=O J z/\z<2^s/\Row (w.heap.size+2) 30 kC wr o (cv q 0++r)/\V (w.heap.size+2) w2 wr/\r.length=j/\aj r/\
   X r+18446744073709551616^j*z=X (l.take j)*2^s) (λi _ _ _ _ _=>l.length-(ag i).toNat)
  case atStart=>exact⟨0,0,[],bh _,rfl,rfl,cz s,by rw[List.append_nil];exact i4.o,E _ _,rfl,(λx hx=>by cases hx),by simp[X]⟩
  case round=>
   obtain⟨j,z,r,hj,rfl,rfl,f,t,p,h,g9,d⟩:=hrel;have HV:=A d;have HR:=A h;have h0:=A f;clear d h f;have u:w.heap.size+2<=wr.heap.size:=bu g8 p.size
   by_cases C:j<l.length
   .rcases h7.o with⟨_,hn⟩|⟨g,cap,Q,hg,_,_,d⟩
    .subst hn;simp at C
    .injection Q with h1 D h3
     subst h1 h3;have hx:l.getD j 0<18446744073709551616:=h8 _ (by rw[bc,dh C];exact ej _);have F:wr.cell? ⟨g,j,W⟩=Z (O J (l.getD j 0:Nat)):=(p.cell (by simp;omega)).trans ((N.cell hg).trans (d j C));clear d;have d:=gS C;generalize f:l.getD j 0=x at*;have HT:=A d;clear d f D;obtain⟨R,hi,h,d,-,j9,k0,f⟩:=aIY hx L h0.o;have h4:=A (aIX x s wr hx L);rw[h]at h4;generalize D:x*2^s%18446744073709551616=k1 at*;have HS:=A f;have i5:=A d;clear f h D d;go_wp2_with fail;refine(h4.o).mono ?_;rintro e wx ⟨rfl,D⟩;have h5:V (w.heap.size+2) w2 wx:=p.trans (D.mono u);have j2:w.heap.size+2<=wx.heap.size:=bu u D.size;have f:=((t.A4 D).A6 (U #[O J hi,O J R] 422)).A6 (U #[O J R] 30);have T:(cv q 0++r).length<=300:=by have:=HR.o;simp;omega
     have P:=t.lt;clear t p F
     go_wp2_with (at_builtin;refine cV nP rfl _ _ rfl rfl f ⟨wx.heap.size+1,0,W⟩ 1 R rfl ?_ rfl ?_ ?_ ?_ ?_)
     .simp
     .omega
     .unfold au;omega
     .simp;omega
     intro b cap w3 h d;have F:V (w.heap.size+2) w2 w3:=((h5.alloc (by omega) (U #[O J hi,O J R] 422)).alloc (by simp;omega) (U #[O J R] 30)).grown d (by simp;omega) (λk hk=>(f.lt k hk).1)
     have h6:w3.heap[wx.heap.size]?=Z (U #[O J hi,O J R] 422 (0,0)):=by
      rw[d.block _ (by simp;omega) (λe=>by have:=(P _ e.symm).2;have:=D.size;omega)];exact(eh _ _ _ (by simp)).trans (dp wx _)
     have k2:w3.cell? wx=Z (O J hi):=by rw[aA h6];rfl
     have g6:=A h;clear h d f h6 P;go_wp2
     go_roundw
     case rel=>
      refine⟨j+1,hi,r++ [R],by omega,by go_num,rfl,i5.o,?_,F,by simp[HR.o],co.2 ⟨g9,λy hy=>by simp at hy;omega⟩,?_⟩
      .exact g6.o
      .rw[HT.o,ck,HR.o,ba];simp only[X,ee,cw];exact aIZ HV.o HS.o
     case measure=>simp[ag];omega
   .have P:j=l.length:=by omega
    have R:z<18446744073709551616:=ev h0.o (by
     have:=cr (n:=2) (by decide) (by omega:s<=64);omega)
    have D:X (cv q 0++(r++ [z]))=n*2^k:=by
     have h1:=HV.o;rw[P,eo,h9.o]at h1;rw[tR,ck,HR.o,P];simp only[X,ee,cw];rw[h1,i0.o,dj,cu];exact dq _ _ _
    have HF:=A D;have T:(cv q 0++r).length<=300:=by have:=HR.o;simp;omega
    clear D P;have f:=t.A6 (U #[O J z] 30);have D:V (w.heap.size+2) w2 (wr.alloc (U #[O J z] 30)):=p.alloc u _;clear t
    go_wp2_with (at_builtin;refine cV nP rfl _ _ rfl rfl f ⟨wr.heap.size,0,W⟩ 1 z rfl ?_ rfl ?_ ?_ ?_ ?_)
    .simp
    .omega
    .unfold au;omega
    .simp;omega
    intro b cap w3 h d;have F:V (w.heap.size+2) w2 w3:=D.grown d (by simp;omega) (λk hk=>(f.lt k hk).1);have g6:=A h;clear h d f;have g4:=(F.block _ (by omega)).trans i3.o;have f:V w w w3:=N.trans (F.mono (by omega));go_wp2_with fail;refine(jW _ (cv q 0++(r++ [z])) _ (co.2 ⟨nS q,co.2 ⟨g9,λy hy=>by simp at hy;omega⟩⟩) (g6.o.D6 (bh _))).mono ?_;rintro e w4 ⟨a3,k3,c3,rfl,h,d⟩;rw[HF.o]at h;have t:=keep g4 d;have P:=G t;have h5:=bm t;have h4:=chain f d;have HM:=A h;clear h g4 p;go_wp2;exact ak (v:=af #[Y #[I a3 k3 c3],bw]) (by simp[ao,iq,go_sem,P]) rfl ⟨a3,k3,c3,rfl,HM.o.B5 t (by decide) _ _,h4.setCell (by simp) _⟩
def iS(q s j:Nat):Nat:=if j<=q then 18446744073709551616^j else 18446744073709551616^q*2^s
def aKU(h:j<q):(n%iS q s (j+1)!=0)=((n%iS q s j !=0)||(n/18446744073709551616^j%18446744073709551616 !=0)):=by
 unfold iS;rw[if_pos (by omega),if_pos (by omega),nR,em];simp only[bne_iff_ne,ir,ne_eq,it,iu];have:¬18446744073709551616^j=0:=iv (iw (by decide))
 by_cases a:n%18446744073709551616^j=0<;>simp[a,this]
def aKV(b:s<64):(n%iS q s (q+1)!=0)=((n%iS q s q !=0)||(n/18446744073709551616^q%18446744073709551616%2^s !=0)):=by
 unfold iS;rw[if_neg (by omega),if_pos (by omega),ix,Nat.mod_mod_of_dvd _ ⟨2^(64-s),by rw[bk];exact pY b⟩,em];simp only[bne_iff_ne,ir,ne_eq,it,iu];have:¬18446744073709551616^q=0:=iv (iw (by decide))
 by_cases a:n%18446744073709551616^q=0<;>simp[a,this]
def aKW(h:q<j):(n%iS q s (j+1)!=0)=(n%iS q s j !=0):=by
 unfold iS;rw[if_neg (by omega),if_neg (by omega)]
def aCy(g:s<64)(i:k=64*q+s)(l:q<=j):
 (n/18446744073709551616^(j+1)%18446744073709551616*18446744073709551616+n/18446744073709551616^j%18446744073709551616)/2^s%18446744073709551616=n/2^k/18446744073709551616^(j-q)%18446744073709551616:=by
 have d:n/2^k/18446744073709551616^(j-q)=n/18446744073709551616^j/2^s:=by
  rw[du,du,dj,dj,<-cu,<-cu];congr 2;omega
 rw[d,ba,<-du];generalize n/18446744073709551616^j=m;have c:=cz s
 have h:m/18446744073709551616%18446744073709551616*18446744073709551616+m%18446744073709551616=m%(18446744073709551616*18446744073709551616):=by
  rw[ix,bk,fe]
 rw[h];have e:=gq m (18446744073709551616*18446744073709551616);generalize m%(18446744073709551616*18446744073709551616)=r at*;generalize m/(18446744073709551616*18446744073709551616)=t at*;rw[<-e]
 have f:18446744073709551616*18446744073709551616*t+r=r+2^s*(18446744073709551616*(2^(64-s)*t)):=by
  have:18446744073709551616*18446744073709551616*t=2^s*(18446744073709551616*(2^(64-s)*t)):=by
   have a:=pY g;generalize 18446744073709551616=b at*;rw[a];simp only[bp,dq,bk]
  omega
 rw[f,Nat.add_mul_div_left _ _ c,Nat.add_mul_mod_self_left]
def aI0(b:x<18446744073709551616)(c:s<64):cj fg J (x:Int) ((2^s-1:Nat):Int)=((x%2^s:Nat):Int):=by
 have a:2^s<=2^63:=cr (by decide) (by omega);rw[bits_and_u64_nat _ _ b (by omega),Nat.and_two_pow_sub_one_eq_mod]
def aI1(e:s<64):J.wrap (J.wrap (2^s)-1)=((2^s-1:Nat):Int):=by
 have c:2^s<=2^63:=cr (by decide) (by omega);have d:=cz s;have b:(2:Int)^s=((2^s:Nat):Int):=by simp
 rw[b];generalize 2^s=y at*;have a:J.wrap (y:Int)=(y:Int):=by rw[et];omega
 rw[a,et];omega
def aKX{L:Nat}(c:k=64*q+s)(a:n<18446744073709551616^L):n/2^k%18446744073709551616^(L-q)=n/2^k/\(n%iS q s L !=0)=(n%2^k !=0):=by
 have e:2^k=18446744073709551616^q*2^s:=by rw[c,cu,dj]
 have b:18446744073709551616^q<=2^k:=by rw[e];exact Nat.le_mul_of_pos_right _ (cz s)
 refine⟨ct (go (ev a ?_)),?_⟩
 .refine bu ?_ (ip _ b);rw[<-cu];exact cr (by decide) (by omega)
 .unfold iS;split
  .rename_i h;have:18446744073709551616^L<=2^k:=bu (cr (by decide) h) b;rw[ct a,ct (ev a this)]
  .rw[e]
def aKY(w:K)(n:Nat)(b:Bool)(e:dw)(w':K):Prop:=∃a k c,e=ai (af #[Y #[I a k c],b])/\Wds w' (I a k c) (S n)/\V w w w'
def aI2(a b:Int)(w:K):(Instr.field 422 (Y #[O J a,O J b]) 1).run ae w=.ok (O J b) w:=by kernel_rfl
def wI(a:Option bj)(kk c n k:Nat)(w:K)(l:Wds w (I a kk c) (S n))(hl:(S n).length<=4294967295)(j8:k<=4294967295):
 ah ae 255 #[Y #[I a kk c],k] w λe w'=>aKY w (n/2^k) (n%2^k !=0) e w':=by
 have j6:max (k:Int) 0=k:=by omega
 have j0:V w w ((w.alloc (U #[I a kk c] 381)).alloc (U #[()] 381)):=((E _ _).alloc (H _) _).alloc (by simp) _;obtain⟨va,vc,he⟩:=bz l;injection he with h1 h p
 subst h1 h p;have j1:=A l.B6;have f:=dv (n:=n) (H _);have j2:=A f;have d:∀i,(S n).getD i 0=n/18446744073709551616^i%18446744073709551616:=ek n;have i7:=A d;have HW:M (∀wx,V w w wx->Wds wx (I a (S n).length c) (S n)):=λwx hx=>l.A4 hx
 clear l f d;obtain⟨q,s,d,u⟩:∃q s,k=64*q+s/\s<64:=⟨k/64,k%64,by omega,by omega⟩;have j7:=aI2;have j9:(k:Int)/64=q:=by omega
 have i8:(k:Int)%64=s:=by omega
 have h4:=A d;clear d;generalize d:(S n).length=L at*;have HL:=A d;clear d;have d:w.heap.size+2=((w.alloc (U #[I a L c] 381)).alloc (U #[()] 381)).heap.size:=by simp
 have k0:=A d;clear d;go_enter func255,ntmps255;go_wp2
 go_loopw [15,6,7,8,9] (λi b o _ _ wr=>∃(j:Nat)(r:List Nat),j<=L/\i=O av j/\b=cg (n%iS q s j !=0)/\Row (w.heap.size+2) 30 kC wr o r/\r.length=j-q/\aj r/\X r=n/2^k%18446744073709551616^(j-q)/\
  V w w wr/\wr.heap[w.heap.size]?=Z (U #[I a L c] 381 (0,0))/\wr.heap[w.heap.size+1]?=Z (U #[()] 381 (0,0))) (λi _ _ _ _ _=>L-(ag i).toNat)
 case atStart=>exact⟨0,[],bh _,rfl,by simp[iS,iy],ez _ _ _ _,by simp,(λx hx=>by cases hx),by simp[X,iy],j0,(eh _ _ _ (by simp)).trans (dp w _),by simpa using dp (w.alloc (U #[I a L c] 381)) (U #[()] 381)⟩
 case round=>
  obtain⟨j,r,hj,rfl,rfl,l,t,h0,d,f,g1,B⟩:=hrel;have h5:=G g1;have G1:=A g1;have G2:=A B;have HV:=A d;have HR:=A t;clear g1 B d t
  by_cases j3:j<L
  .rcases j1.o with⟨_,hn⟩|⟨g,cap,he,hg,_,_,d⟩
   .have:=HL.o;rw[hn]at this;simp at this;omega
   .injection he with h1 h p
    have h6:wr.cell? ⟨g,j,W⟩=Z (O J ((S n).getD j 0:Nat)):=(f.cell (by simpa using hg)).trans (d j j3);subst h1;rw[i7.o]at h6;have h7:n/18446744073709551616^j%18446744073709551616<18446744073709551616:=bx _ (by decide);clear d h p;generalize d:n/18446744073709551616^j%18446744073709551616=x at*;have HX:=A d;clear d;obtain⟨b0,d⟩:∃b0,(n%iS q s j !=0)=b0:=⟨_,rfl⟩;have h8:=A d;rw[d];clear d;rcases im j q with T|T|T
    .have t:=aKU (n:=n) (s:=s) T;rw[h8.o,HX.o]at t;have g6:j+1-q=j-q:=by omega
     have d:((x:Int)!=0)=(x !=0):=by rw[em];simp
     have HG:=A t;have h:=A g6;have HN:=A d;clear t g6 d;cases b0
     all_goals
      go_wp2
      go_roundw
      case rel=>
       refine⟨j+1,r,by omega,by go_num,?_,l,by rw[h.o];exact HR.o,h0,by rw[h.o];exact HV.o,f,G1.o,G2.o⟩;rw[HG.o]
       first|rfl|(rw[HN.o];rfl)
      case measure=>simp[ag];omega
    .obtain rfl:j=q:=T;obtain⟨y,hy⟩:∃y,n/18446744073709551616^(j+1)%18446744073709551616=y:=⟨_,rfl⟩;have h9:y<18446744073709551616:=hy▸bx _ (by decide);have P:=rR (Z ⟨g,0,W⟩) L c n y (j+1) wr (HW.o wr f) (by omega) hy;rw[show((j+1:Nat):Int)=(j:Int)+1 from by omega]at P;have i0:=A P;have D:=aCy (n:=n) u h4.o (H _);rw[hy,HX.o]at D;obtain⟨z,hz⟩:∃z,(y*18446744073709551616+x)/2^s%18446744073709551616=z:=⟨_,rfl⟩;have j4:z<18446744073709551616:=hz▸bx _ (by decide);rw[hz]at D;have HZ:=A hz;have i1:=A D;have t:=aKV (n:=n) (q:=j) u;rw[HX.o,h8.o]at t;obtain⟨m,hm⟩:∃m,x%2^s=m:=⟨_,rfl⟩;have j5:cj fg J (x:Int) (J.wrap (J.wrap (2^s)-1))=(m:Int):=by rw[aI1 u,aI0 h7 u,hm]
     rw[hm]at t;have d:((m:Int)!=0)=(m !=0):=by rw[em];simp
     have HG:=A t;have HN:=A d;clear t d hy hz D hm P;cases b0
     all_goals
      go_wp2_with fail;refine(i0.o).mono ?_;rintro e wx ⟨rfl,Q⟩;go_wp2_with fail
      try simp only[i8]
      refine(aCx y x s _ h9 h7 u).mono ?_;rintro e wy ⟨⟨h',rfl⟩,g7⟩;have d:=Q.trans (g7.mono Q.size);have h:=(l.A4 d).A6 (U #[O J ((y*18446744073709551616+x)/2^s%18446744073709551616:Nat)] 30);have B:=chain f d;have g8:=keep G1.o d;have R:=keep G2.o d;have i9:w.heap.size+2<=wy.heap.size:=di R;have i2:=A g8;have i3:=A R;have N:=(l.A4 d).lt;rw[HZ.o]at h⊢;clear l f Q g7 d g8 R h6 h5
      go_wp2_with (at_builtin;refine cV nP rfl _ _ rfl rfl h ⟨wy.heap.size,0,W⟩ 1 z rfl ?_ rfl ?_ ?_ ?_ ?_)
      .simp
      .have:=HR.o;omega
      .have:=HR.o;unfold au;omega
      .simp;omega
      intro b cap w3 C p;have F:V (w.heap.size+2) wy w3:=((E _ _).alloc (by omega) _).grown p (by simp;omega) (λk hk=>(N k hk).1);have i4:=A C;have i5:=A ((F.block _ (by omega)).trans i2.o);have i6:=A ((F.block _ (by omega)).trans i3.o);have g9:V w w w3:=B.trans (F.mono (by omega));clear C p h N F B;go_wp2
      go_roundw
      case rel=>
       refine⟨j+1,r++ [z],by omega,by go_num,?_,i4.o,by first|(simp[HR.o];done)|(simp[HR.o];omega),co.2 ⟨h0,λy hy=>by simp at hy;omega⟩,?_,g9,i5.o,i6.o⟩
       .rw[HG.o]
        first|rfl|(rw[HN.o];rfl)
       .have e:j+1-j=(j-j)+1:=by omega
        rw[e,nR,ck,HR.o,HV.o,i1.o];simp[X]
      case measure=>simp[ag];omega
    .obtain⟨y,hy⟩:∃y,n/18446744073709551616^(j+1)%18446744073709551616=y:=⟨_,rfl⟩;have h9:y<18446744073709551616:=hy▸bx _ (by decide);have P:=rR (Z ⟨g,0,W⟩) L c n y (j+1) wr (HW.o wr f) (by omega) hy;rw[show((j+1:Nat):Int)=(j:Int)+1 from by omega]at P;have i0:=A P;have D:=aCy (n:=n) u h4.o (Nat.le_of_lt T);rw[hy,HX.o]at D;obtain⟨z,hz⟩:∃z,(y*18446744073709551616+x)/2^s%18446744073709551616=z:=⟨_,rfl⟩;have j4:z<18446744073709551616:=hz▸bx _ (by decide);rw[hz]at D;have HZ:=A hz;have i1:=A D;have t:=aKW (n:=n) (s:=s) T;rw[h8.o]at t;have g6:((j:Int)==(q:Int))=dm:=by rw[beq_eq_false_iff_ne];omega
     have HG:=A t;clear t hy hz D P;cases b0
     all_goals
      go_wp2_with fail;refine(i0.o).mono ?_;rintro e wx ⟨rfl,Q⟩;go_wp2_with fail
      try simp only[i8]
      refine(aCx y x s _ h9 h7 u).mono ?_;rintro e wy ⟨⟨h',rfl⟩,g7⟩;have d:=Q.trans (g7.mono Q.size);have h:=(l.A4 d).A6 (U #[O J ((y*18446744073709551616+x)/2^s%18446744073709551616:Nat)] 30);have B:=chain f d;have g8:=keep G1.o d;have R:=keep G2.o d;have i9:w.heap.size+2<=wy.heap.size:=di R;have i2:=A g8;have i3:=A R;have N:=(l.A4 d).lt;rw[HZ.o]at h⊢;clear l f Q g7 d g8 R h6 h5
      go_wp2_with (at_builtin;refine cV nP rfl _ _ rfl rfl h ⟨wy.heap.size,0,W⟩ 1 z rfl ?_ rfl ?_ ?_ ?_ ?_)
      .simp
      .have:=HR.o;omega
      .have:=HR.o;unfold au;omega
      .simp;omega
      intro b cap w3 C p;have F:V (w.heap.size+2) wy w3:=((E _ _).alloc (by omega) _).grown p (by simp;omega) (λk hk=>(N k hk).1);have i4:=A C;have i5:=A ((F.block _ (by omega)).trans i2.o);have i6:=A ((F.block _ (by omega)).trans i3.o);have g9:V w w w3:=B.trans (F.mono (by omega));clear C p h N F B;go_wp2
      go_roundw
      case rel=>
       refine⟨j+1,r++ [z],by omega,by go_num,?_,i4.o,by first|(simp[HR.o];done)|(simp[HR.o];omega),co.2 ⟨h0,λy hy=>by simp at hy;omega⟩,?_,g9,i5.o,i6.o⟩
       .rw[HG.o]
       .have e:j+1-q=(j-q)+1:=by omega
        rw[e,nR,ck,HR.o,HV.o,i1.o];simp[X]
      case measure=>simp[ag];omega
  .have h:j=L:=by omega
   subst h;have d:=aKX (n:=n) h4.o j2.o;have p:X r=n/2^k:=by rw[HV.o];exact d.1
   have D:=A p;have F:=A d.2;clear d p;go_wp2_with fail;refine(jW _ r _ h0 (l.D6 (bh _))).mono ?_;rintro e Q ⟨a3,B,C,rfl,hm,d⟩;rw[D.o]at hm;have p:=keep G2.o d;have t:=G p;have N:=bm p;have g9:=chain f d;have P:=A hm;clear hm f l h5;go_wp2;refine ak (v:=af #[Y #[I a3 B C],cg (n%2^k !=0)]) ?_ rfl ⟨a3,B,C,rfl,P.o.B5 p (by decide) _ _,g9.setCell (by simp) _⟩;rw[<-F.o];simp[ao,results255,go_sem,t]
def aBr{p:Nat}(a:p<l.length)(y:Nat):X (l.set p y)+18446744073709551616^p*l.getD p 0=X l+18446744073709551616^p*y:=by
 induction l generalizing p with
 | nil=>simp at a
 | cons x l b=>
  cases p with
  | zero=>simp[X];omega
  | succ p=>
   have:=b (p:=p) (by simpa using a);simp only[List.set_cons_succ,X,ba];have e:(x::l).getD (p+1) 0=l.getD p 0:=by simp[bc]
   rw[e];have d:18446744073709551616^p*18446744073709551616*l.getD p 0=18446744073709551616*(18446744073709551616^p*l.getD p 0):=by rw[bk (18446744073709551616^p),bp]
   have c:18446744073709551616^p*18446744073709551616*y=18446744073709551616*(18446744073709551616^p*y):=by rw[bk (18446744073709551616^p),bp]
   rw[d,c];omega
def tS(h:aj l)(p:Nat){y:Nat}(b:y<18446744073709551616):aj (l.set p y):=λx c=>by
 rcases List.mem_or_eq_of_mem_set c with a|a
 .exact h x a
 .subst a;exact b
def aI3{o c1 c2:Nat}(l:x<18446744073709551616)(g:y<18446744073709551616)(f:o<18446744073709551616)(e:a<18446744073709551616)(j:d+18446744073709551616*hi=x*y)(h:c+18446744073709551616*c1=d+o)(k:b+18446744073709551616*c2=c+a):
 b+18446744073709551616*(hi+c1+c2)=x*y+o+a/\hi+c1+c2<18446744073709551616:=by
 have i:x*y<=18446744073709551615*18446744073709551615:=gy (by omega) (by omega);omega
def aI4{v o:Nat}(f:d+P*o=v+P*c)(h:v+P*b=R)(g:c+18446744073709551616*a=x*y+o+b):d+P*18446744073709551616*a=R+P*(x*y):=by
 have e:P*c+P*(18446744073709551616*a)=P*(x*y)+P*o+P*b:=by rw[<-ar,g,ar,ar]
 rw[bp P];omega
def aI5(j k x q y:Nat):18446744073709551616^j*(x*(q+18446744073709551616^k*y))=18446744073709551616^j*(x*q)+18446744073709551616^(j+k)*(x*y):=by
 rw[ar,ar,cu,dq x,bp]
def getD_lt(h:aj l)(i:Nat):l.getD i 0<18446744073709551616:=by
 rw[bc];cases a:l[i]? with
 | none=>decide
 | some x=>exact h x (List.mem_of_getElem? a)
def lX{i:Nat}(h:i<l.length):l[i]?=Z (l.getD i 0):=by rw[bc,dh h];rfl
def aKZ(a a':Option bj)(k k' c c' n m:Nat)(w:K)(d:Wds w (I a k c) (S n))(b:Wds w (I a' k' c') (S m))(hl:(S n).length<=1048576)(l5:(S m).length<=1048576):
 ah ae 232 #[Y #[I a k c],Y #[I a' k' c']] w λe w'=>pB w (aIT (n*m)) (aEy (n*m)) e w':=by
 obtain⟨va,vc,he⟩:=bz d;injection he with P q u
 subst P q u;obtain⟨l6,l7,he⟩:=bz b;injection he with P q u
 subst P q u;have j1:=A d.B6;have i4:=A b.B6;clear d b;have j2:=dl n;have i5:=dl m;have b:=ep n;have f:=ep m;generalize r:S n=l at*;generalize h:S m=d at*;have j3:=A b;have j4:=A f;clear r h b f;have h:V w w (((w.alloc (U #[I a l.length c] 381)).alloc (U #[I a' d.length c'] 381)).alloc (U #[()] 381)):=(((E _ _).alloc (H _) _).alloc (by simp) _).alloc (by simp;omega) _;have b:V (((w.alloc (U #[I a l.length c] 381)).alloc (U #[I a' d.length c'] 381)).alloc (U #[()] 381)).heap.size (((w.alloc (U #[I a l.length c] 381)).alloc (U #[I a' d.length c'] 381)).alloc (U #[()] 381)) (((w.alloc (U #[I a l.length c] 381)).alloc (U #[I a' d.length c'] 381)).alloc (U #[()] 381)):=E _ _;obtain⟨g1,f,r,_,_⟩:=tQ b;have G1:=A g1;have G2:=A f;have G3:=A r;clear g1 f r b;obtain⟨N,r⟩:∃N,l.length+d.length+1=N:=⟨_,rfl⟩;have l8:((l.length:Int)+(d.length:Int)+1)=(N:Int):=by omega
 go_enter func232,ntmps232
 go_wp2_with (at_make;refine rO (B:=w.heap.size+3) (enc:=kC) 0 aEx rfl _ _ rfl _ _ _ _ N N rfl rfl ?_ ?_ ?_ ?_ ?_ ?_ ?_)
 .first|rfl|omega
 .first|rfl|omega
 .omega
 .omega
 .unfold au;omega
 .simp
 intro w1 f b;have l0:w.heap.size+3<=w1.heap.size:=by have:=b.size;simp at this;omega
 have h4:V w w w1:=h.trans (b.mono (by omega));have j5:=A ((b.block _ (by omega)).trans G1.o);have i6:=A ((b.block _ (by omega)).trans G2.o);have j6:=A ((b.block _ (by omega)).trans G3.o);have HN:=A r;have i7:=A f;have l9:=G j5.o;clear h b f r;obtain⟨a0,b⟩:∃a0,w.heap.size+1+1+1=a0:=⟨_,rfl⟩;have h6:w.heap.size+3<=a0:=by omega
 simp only[b]at i7⊢;clear b;go_wp2
 go_loopw [27] (λi wr=>∃(j:Nat)(r:List Nat),j<=l.length/\i=O av j/\Row (w.heap.size+3) 30 kC wr (I (Z ⟨a0,0,W⟩) N N) r/\r.length=N/\aj r/\X r=X (l.take j)*m/\
  (∀p,j+d.length<=p->r.getD p 0=0)/\V (w.heap.size+3) w1 wr) (λi _=>l.length-(ag i).toNat)
 case atStart=>exact⟨0,cv N 0,bh _,rfl,i7.o.D6 h6,by simp,nS N,by have:=tR N [];simp[X]at this;simp[X,this],(λp _=>by simp[bc,List.getElem?_replicate];split<;>rfl),E _ _⟩
 case round=>
  obtain⟨j,r,hj,rfl,D,b,h7,h,s,f⟩:=hrel;obtain⟨wo,rfl⟩:∃wo:K,wo=wr:=⟨_,rfl⟩;have HV:=A h;have HZ:=A s;have R:=A b;clear h s b;have h8:=G ((f.block _ (by omega)).trans i6.o)
  by_cases h9:j<l.length
  .rcases j1.o with⟨_,hn⟩|⟨g,cap,he,hg,_,_,b⟩
   .subst hn;simp at h9
   .injection he with P q u
    have hx:=getD_lt j2 j;have T:wo.cell? ⟨g,j,W⟩=Z (O J (l.getD j 0:Nat)):=(f.cell (by simp;omega)).trans ((h4.cell hg).trans (b j h9));subst P;clear b q u;have b:=gS h9;generalize h:l.getD j 0=x at*;have HT:=A b;clear b h;go_wp2
    go_loopw [35,9] (λi mo wr=>∃(k Q:Nat)(t:List Nat),k<=d.length/\i=O av k/\mo=O J Q/\Q<18446744073709551616/\Row (w.heap.size+3) 30 kC wr (I (Z ⟨a0,0,W⟩) N N) t/\t.length=N/\aj t/\
     X t+18446744073709551616^(j+k)*Q=X (l.take j)*m+18446744073709551616^j*(x*X (d.take k))/\(∀p,j+d.length<=p->t.getD p 0=0)/\V (w.heap.size+3) w1 wr) (λi _ _=>d.length-(ag i).toNat)
    case atStart=>exact⟨0,0,r,bh _,rfl,rfl,by decide,D,R.o,h7,by simp[X,HV.o],HZ.o,f⟩
    case round=>
     obtain⟨k,Q,t,hk,rfl,rfl,i0,b,z,F,h,L,s⟩:=hrel;have i8:=A h;have i1:=A L;have C:=A z;clear h L D f h8 T
     by_cases i2:k<d.length
     .rcases i4.o with⟨_,hn⟩|⟨g',l1,j7,j8,_,_,h⟩
      .subst hn;simp at i2
      .injection j7 with P q u
       have hy:=getD_lt i5 k;have l2:wr.cell? ⟨g',k,W⟩=Z (O J (d.getD k 0:Nat)):=(s.cell (by simp;omega)).trans ((h4.cell j8).trans (h k i2));subst P;clear h q u;have q:=gS i2;have ho:=getD_lt F (j+k);have u:j+k<t.length:=by have:=HN.o;omega
       have j9:wr.cell? ⟨a0,j+k,W⟩=Z (O J (t.getD (j+k) 0:Nat)):=b.B3 (lX u);have h:=λy=>aBr (l:=t) u y
       generalize L:d.getD k 0=y at*;generalize T:t.getD (j+k) 0=o at*;have k0:=A q;have i9:=A h;have m1:j+k<N:=by have:=HN.o;omega
       have i3:=b.F0 (j+k);clear q h L T u z;go_wp2_with fail;refine(pX x y hx hy _).mono ?_;rintro e w' ⟨hi,lo,rfl,rfl,T,k1,m2⟩;obtain⟨s1,c1,q,k2,l3,k5⟩:=mR lo o k1 ho;obtain⟨s2,c2,L,k6,l4,k7⟩:=mR s1 Q k2 i0;obtain⟨j0,k8⟩:=aI3 hx hy ho i0 T q L;have k9:=A j0;clear T q L j0;go_wp2
       go_roundw
       case rel=>
        have L:=b.F8 (i:=j+k) (by rw[C.o];omega) s2;refine⟨k+1,hi+c1+c2,t.set (j+k) s2,by omega,by go_num,by go_num,k8,L,by simp[C.o],tS F _ k6,?_,?_,s.setCell (by simpa using h6) _⟩
        .rw[k0.o,aI5,show j+(k+1)=j+k+1 from rfl,ba,<-fi];exact aI4 (i9.o s2) i8.o k9.o
        .intro p hp;rw[bc,iz (by omega)];exact i1.o p hp
       case measure=>simp[ag];omega
     .have T:k=d.length:=by omega
      have u:j+d.length<t.length:=by have:=HN.o;omega
      have h:=aBr (l:=t) u Q;rw[i1.o _ (H _),ee,cw]at h
      have q:X (t.set (j+d.length) Q)=X (l.take (j+1))*m:=by
       have P:=i8.o;rw[T,eo,j4.o]at P;rw[h,P,HT.o,fj,bp]
      have HF:=A q;have h8:=G ((s.block _ (by omega)).trans i6.o);have i3:=b.F0 (j+d.length);have j9:wr.cell? ⟨a0,j+d.length,W⟩=Z (O J (t.getD (j+d.length) 0:Nat)):=b.B3 (lX u);have L:=b.F8 (i:=j+d.length) u Q;have P:=tS F (j+d.length) i0
      have i9:∀p,j+1+d.length<=p->(t.set (j+d.length) Q).getD p 0=0:=λp hp=>by
       rw[bc,iz (by omega)];exact i1.o p (by omega)
      have j0:=A L;have j7:=A i9;generalize t.getD (j+d.length) 0=o at*;clear h q T u L i9 z;go_wp2
      go_roundw
      case rel=>exact⟨j+1,t.set (j+d.length) Q,by omega,by go_num,j0.o,by simp[C.o],P,HF.o,j7.o,s.setCell (by simpa using h6) _⟩
      case measure=>simp[ag];omega
  .have h:j=l.length:=by omega
   have q:X r=n*m:=by rw[HV.o,h,eo,j3.o]
   have HF:=A q
   have b:(S (n*m)).length<=4294967296:=by
    have s:=gl h7;rw[q]at s;have:=gm s;have:=R.o;have:=HN.o;omega
   have s:V w w wo:=h4.trans (f.mono (by omega));have L:=(f.block _ (by omega)).trans j6.o;clear q h;go_wp2_with fail;refine(jW _ r _ h7 (D.D6 (bh _))).mono ?_;rintro e w3 ⟨a3,T,c3,rfl,u,h⟩;rw[HF.o]at u;go_wp2_with fail;refine(nQ a3 T c3 (n*m) _ u b).mono ?_;rintro e w4 ⟨a4,P,Q,rfl,q,t⟩;have z:=keep (keep L h) t;have C:=G z;have i0:=bm z;have F:=chain (chain s h) t;have HM:=A q;clear u q L f D h8;go_wp2;exact ak (v:=af #[Y #[I a4 P Q],aEy (n*m)]) (by simp[ao,results232,go_sem,C]) rfl ⟨a4,P,Q,rfl,HM.o.B5 z (by decide) _ _,F.setCell (by simp;omega) _⟩
def aK0(n i:Nat):n/2^i=2*(n/2^(i+1))+(n.testBit i).toNat:=by
 rw[ba,<-du,ig];generalize n/2^i=N
 by_cases h:N%2=1<;>simp[h]<;>omega
def aHb(q j:Nat):q*2^(j+1)=2*q*2^j:=by rw[ba,bk (2^j) 2,<-bp,bk q 2]
def aK1{N:Nat}(c:0<m)(a:N%m=R)(h:2*R+b<m):(2*N+b)%m=2*R+b/\(2*N+b)/m=2*(N/m):=by
 have e:=gq N m;have d:2*N+b=m*(2*(N/m))+(2*R+b):=by rw[<-a];rw[<-a]at h;have:m*(2*(N/m))=2*(m*(N/m)):=dq _ _ _;omega
 rw[d];exact⟨by rw[ja,ct h],by rw[jb c,ei h,cw]⟩
def aI6{N:Nat}(c:0<m)(f:N%m=R)(i:b<=1)(h:m<=2*R+b):(2*N+b)%m=2*R+b-m/\(2*N+b)/m=2*(N/m)+1:=by
 have e:=gq N m;have d:R<m:=f▸bx N c;have g:2*N+b=m*(2*(N/m)+1)+(2*R+b-m):=by rw[ar,fq];have:m*(2*(N/m))=2*(m*(N/m)):=dq _ _ _;omega
 have a:2*R+b-m<m:=by omega
 rw[g];exact⟨by rw[ja,ct a],by rw[jb c,ei a,cw]⟩
def aI7(h:aj l)(i:Nat):l.getD i 0=X l/18446744073709551616^i%18446744073709551616:=by
 induction l generalizing i with
 | nil=>simp[X]
 | cons x l a=>
  obtain⟨c,b⟩:=Lim.small_cons.1 h;cases i with
  | zero=>simp[X];omega
  | succ i=>
   have e:(x::l).getD (i+1) 0=l.getD i 0:=by simp[bc]
   rw[e,a b,X,ba,bk (18446744073709551616^i),<-du];congr 2;omega
def aK2{r i Q:Nat}(h:aj l)(hi:i=64*q+r)(p:r<64)(g:q<l.length)(f:X l=Q*2^(i+1)):
 ∃y:Nat,cj dt J (l.getD q 0:Nat) ((2^r:Nat):Int)=(y:Int)/\y<18446744073709551616/\X (l.set q y)=(2*Q+1)*2^i:=by
 have d:2^r<18446744073709551616:=by have:=cr (n:=2) (by decide) (by omega:r<=63);omega
 have k:=aI7 h q
 have m:X l/18446744073709551616^q=Q*2^(r+1):=by
  rw[f,dj,hi,show 64*q+r+1=64*q+(r+1)from rfl,cu,dq,Nat.mul_div_cancel_left _ (cz _)]
 have j:l.getD q 0=2^(r+1)*(Q%2^(64-(r+1))):=by
  rw[k,m,show(18446744073709551616:Nat)=2^(r+1)*2^(64-(r+1)) by rw[<-cu,show r+1+(64-(r+1))=64 by omega],bk Q,gp]
 have b:l.getD q 0||| 2^r=l.getD q 0+2^r:=by
  rw[j];exact(fm (Nat.pow_lt_pow_right (by decide) (by omega)) _).symm
 have a:=getD_lt h q
 have c:l.getD q 0+2^r<18446744073709551616:=by
  rw[<-b];exact Nat.or_lt_two_pow (n:=64) a d
 refine⟨l.getD q 0+2^r,?_,c,?_⟩
 .rw[eu _ _ a d,b]
 .have e:=aBr g (l.getD q 0+2^r);rw[ar]at e;have o:18446744073709551616^q*2^r=2^i:=by rw[dj,<-cu,hi]
  rw[o]at e;have:X (l.set q (l.getD q 0+2^r))=X l+2^i:=by omega
  rw[this,f,ba,fj,Nat.one_mul,bk (2^i) 2,<-bp,bk Q 2]
def aI8{r:Nat}(h:r<64):J.wrap (2^r)=((2^r:Nat):Int):=by
 have a:=cr (n:=2) (by decide) (by omega:r<=63);rw[show((2:Int)^r)=((2^r:Nat):Int) by simp];generalize 2^r=x at*
 show jf J (x:Int)=x
 rw[et];omega
def Row.M6{d:Type}{B e:Nat}{enc:d->aw}{l:List d}(h:Row B e enc w v l){b:Nat}(c:b<B)(o:Nat)(u:aw):Row B e enc (w.setCell ⟨b,o,W⟩ u) v l:=
 ownsRow_setCell_other h (λa=>by have:=(Row.lt h _ a).1;simp at this;omega) u
def aK3(w:K)(n m:Nat)(e:dw)(w':K):Prop:=∃a k c b f d,e=ai (af #[Y #[I a k c],Y #[I b f d],bw])/\Wds w' (I a k c) (S n)/\Wds w' (I b f d) (S m)/\V w w w'
def aGA(a a':Option bj)(k k' c c' n m:Nat)(w:K)(h:Wds w (I a k c) (S n))(g:Wds w (I a' k' c') (S m))(hl:(S n).length<=1048576)(n1:(S m).length<=1048576)(h6:m≠0):
 ah ae 254 #[Y #[I a k c],Y #[I a' k' c']] w λe w'=>aK3 w (n/m) (n%m) e w':=by
 obtain⟨va,vc,he⟩:=bz h;injection he with h1 h2 f
 subst h1 h2 f;obtain⟨n2,n3,he⟩:=bz g;injection he with h1 h2 f
 subst h1 h2 f
 have d:((S m).length:Int)≠0:=by
  have:=(gh h6).2;omega
 have n4:(((S m).length:Int)==0)=dm:=by rw[beq_eq_false_iff_ne];exact d
 have n5:ac n<=64*(S n).length:=dy.2 (by rw[<-dj];exact dv (H _));have j7:M (∀x,V w w x->ah ae 252 #[Y #[I a (S n).length c]] x λe w'=>e=ai (O av (ac n))/\V x.heap.size x w'):=λx hx=>wH a _ c n x (h.A4 hx) (by omega)
 have HW:M (∀x,V w w x->Wds x (I a (S n).length c) (S n)/\Wds x (I a' (S m).length c') (S m)):=λx hx=>⟨h.A4 hx,g.A4 hx⟩
 have j8:M (∀(x:K)(j:Nat),V w w x->(j:Int)<=4294967296->ah ae 257 #[Y #[I a (S n).length c],O av j] x λe w'=>e=ai (cg (n.testBit j))/\V x.heap.size x w'):=λx j hx hj=>rP a c n j x (h.A4 hx) (by omega) hj
 clear h g d;have d:=ge (n:=n);have j9:=A d;clear d;generalize d:(S m).length=a0 at*;generalize g:(S n).length=N at*;have HM:=A d;clear d g;generalize d:ac n=bl at*;clear d;obtain⟨w0,d⟩:∃w0,w0=((((w.alloc (U #[I a N c] 381)).alloc (U #[I a' a0 c'] 381)).alloc (U #[()] 381)).alloc (U #[()] 381)):=⟨_,rfl⟩;have u:w0.heap.size=w.heap.size+4:=by rw[d];simp
 have h:w0.heap[w.heap.size+3]?=Z (U #[()] 381 (0,0)):=by rw[d];simpa using dp (((w.alloc (U #[I a N c] 381)).alloc (U #[I a' a0 c'] 381)).alloc (U #[()] 381)) (U #[()] 381)
 have f:V (((w.alloc (U #[I a N c] 381)).alloc (U #[I a' a0 c'] 381)).alloc (U #[()] 381)).heap.size (((w.alloc (U #[I a N c] 381)).alloc (U #[I a' a0 c'] 381)).alloc (U #[()] 381)) w0:=by
  rw[d];exact(E _ _).alloc (H _) _
 obtain⟨g1,l,g3,g,_⟩:=tQ f;have G1:=A g1;have G2:=A l;have G3:=A g3;have G4:=A h;have l5:=A d;clear g1 l g3 h f d;go_enter func254,ntmps254;go_wp2_with fail
 go_step3
 go_wp2_with (at_make;refine rO (B:=w.heap.size+4) (enc:=kC) 0 aEx rfl _ _ rfl _ _ _ _ N N rfl rfl ?_ ?_ ?_ ?_ ?_ ?_ ?_)
 .first|rfl|omega
 .first|rfl|omega
 .omega
 .omega
 .unfold au;omega
 .simp
 rw[show((((w.alloc (U #[I a N c] 381)).alloc (U #[I a' a0 c'] 381)).alloc (U #[()] 381)).alloc (U #[()] 381))=w0 from l5.o.symm];intro w1 f h;have d:V (w.heap.size+4) w0 w1:=h.mono (by omega);have s:w.heap.size+4<=w1.heap.size:=by have:=h.size;omega
 have l:V w w w1:=g.trans (d.mono (by omega));have k0:=A ((d.block _ (by omega)).trans G1.o);have l6:=A ((d.block _ (by omega)).trans G2.o);have l7:=A ((d.block _ (by omega)).trans G3.o);have l8:=A ((d.block _ (by omega)).trans G4.o);have i3:w.heap.size+1+1+1+1<w1.heap.size:=(f.lt _ rfl).2;obtain⟨a1,C⟩:∃a1,w.heap.size+1+1+1+1=a1:=⟨_,rfl⟩;have l9:w.heap.size+4<=a1:=by omega
 rw[C]at f i3⊢;have h7:=G k0.o;have m0:=A f;have k1:V w w (w1.alloc (U #[()] 381)):=l.alloc (by omega) _;have m7:(w1.alloc (U #[()] 381)).cell? w=Z (I a N c):=by rw[fa _ _ ⟨w.heap.size,0,W⟩ (by simp;omega)];exact h7
 clear h d u C f h7 g;go_wp2_with fail
 go_step3
 go_wp2_with fail;refine(j7.o _ k1).mono ?_;rintro e w2 ⟨rfl,f⟩;obtain⟨u,d,k2⟩:=after1 f;have i4:=chain l d;have K1:=A (keep k0.o d);have K2:=A (keep l6.o d);have K3:=A (keep l7.o d);have K4:=A (keep l8.o d);have m1:=A (m0.o.A4 d);obtain⟨h,g⟩:∃h,w1.heap.size=h:=⟨_,rfl⟩;rw[g]at u i3 k2⊢
 have n6:w.heap.size+4<h:=by omega
 have KL:=A u;clear u f d l g s;have i5:w.heap.size+4<=w2.heap.size:=by omega
 go_wp2
 go_loopw [9] (λi wr=>∃(t:Nat)(D:List Nat)(P:Option bj)(Q R:Nat),t<=bl/\i=O av ((t:Int)-1)/\Row (w.heap.size+4) 30 kC wr (I (Z ⟨a1,0,W⟩) N N) D/\D.length=N/\aj D/\X D=n/2^t/m*2^t/\
  wr.heap[h]?=Z (U #[I P Q R] 381 (0,0))/\Wds wr (I P Q R) (S (n/2^t%m))/\V (w.heap.size+4) w2 wr) (λi _=>(ag i+1).toNat)
 case atStart=>exact⟨bl,cv N 0,W,0,0,H _,rfl,m1.o.D6 l9,by simp,nS N,by rw[ei j9.o];have:=tR N [];simp[X]at this;simp[this],KL.o,by rw[ei j9.o,Nat.zero_mod,dx];exact Wds.nil _,E _ _⟩
 case round=>
  obtain⟨t,D,P,Q,R,ht,rfl,T,d,h8,l,g,s,f⟩:=hrel;have j0:=A l;have j3:=A d;have GL:=A g;have WL:=A s;have k3:w.heap.size+4<=wr.heap.size:=bu i5 f.size;have m8:h<wr.heap.size:=di g;have i6:V w w wr:=i4.trans (f.mono (by omega));have J1:=A ((f.block _ (by omega)).trans K1.o);have J2:=A ((f.block _ (by omega)).trans K2.o);have J3:=A ((f.block _ (by omega)).trans K3.o);have J4:=A ((f.block _ (by omega)).trans K4.o);clear l d g s;rcases fc t with rfl|n7
  .have h9:=G GL.o;go_wp2
   go_region_with (first|(go_at_call 249;refine(jW _ D _ h8 ((T.B0).D6 (bh _))).mono ?_;rintro e wy ⟨l,s,u,rfl,g9,d⟩;have j4:=(d.cell (p:=⟨h,0,W⟩) (by simp;omega)).trans h9;have i1:=G ((d.block _ (by simp;omega)).trans J3.o);have i2:=G ((d.block _ (by simp;omega)).trans J4.o);have i7:=bm ((d.block _ (by simp;omega)).trans J3.o);have i8:=bm ((d.block _ (by simp;omega)).trans J4.o)))
   all_goals
    have g3:=(d.block _ (by simp;omega)).trans J3.o;have g4:=(d.block _ (by simp;omega)).trans J4.o;have C:=(WL.o.B0).A4 d;rw[j0.o,gr,gu,fq]at g9;rw[gr,gu]at C;go_wp2_with fail;have s3:=aB (o:=0) g3 (I l s u);have g:=(aE (o:=0) (I l s u) (by omega:w.heap.size+3≠w.heap.size+2)).trans g4;have s4:=aB (o:=0) g (I P Q R);have F:=(aE (o:=0) (I P Q R) (by omega:w.heap.size+2≠w.heap.size+3)).trans s3;have L:=G F;have h0:=G s4;have h4:V w w ((wy.setCell ⟨w.heap.size+2,0,W⟩ (I l s u)).setCell ⟨w.heap.size+3,0,W⟩ (I P Q R)):=(((i6.drew).trans (d.mono (by simp;omega))).setCell (p:=⟨w.heap.size+2,0,W⟩) (by simp) _).setCell (p:=⟨w.heap.size+3,0,W⟩) (by simp) _;have h5:=(g9.B5 g3 (by decide) 0 (I l s u)).B5 g (by decide) 0 (I P Q R);have i0:=(C.B5 g3 (by decide) 0 (I l s u)).B5 g (by decide) 0 (I P Q R);rw[Exit.noGoto_ret];exact ak (v:=af #[Y #[I l s u],Y #[I P Q R],bw]) (by simp[ao,results254,go_sem,L,h0]) rfl ⟨l,s,u,P,Q,R,rfl,h5,i0,h4⟩
  .obtain⟨j,rfl⟩:∃j,t=j+1:=⟨t-1,by omega⟩;have g:((j+1:Nat):Int)-1=(j:Int):=by omega
   rw[g];clear g;have k4:(j:Int)<=4294967296:=by omega
   have h7:=G J1.o;have h9:=G GL.o;have k6:=bm GL.o;obtain⟨b,C⟩:∃b,n.testBit j=b:=⟨_,rfl⟩;have g:=j8.o wr.drew j i6.drew k4;rw[C]at g;have m2:=A g;have m3:=A C;clear g C;have F:n/2^(j+1)%m<m:=bx _ (gv h6);have L:m<2^(64*a0):=by rw[<-dj,<-HM.o];exact dv (H _)
   have i0:(S (n/2^(j+1)%m)).length<=4294967295:=bu (fk (k:=a0) (dy.2 (by omega))) (by omega)
   have C:ac (2*(n/2^(j+1)%m)+b.toNat)<=64*(a0+1):=dy.2 (by
    have k7:b.toNat<=1:=by cases b<;>decide
    have:2^(64*a0+1)<=2^(64*(a0+1)):=cr (by decide) (by omega);rw[ba]at this;omega)
   have g:=aK0 n j;rw[m3.o]at g;have i7:=A g;have k9:=A C;clear C L F g;go_wp2
   go_region_with (first|(go_at_call 257;refine(m2.o).mono ?_;rintro e x ⟨rfl,C⟩;have l0:=(C.cell (p:=⟨h,0,W⟩) (by simp;omega)).trans h9)|(go_at_call 275;refine(aHa P Q R (n/2^(j+1)%m) b _ ((WL.o.B0).A4 C) i0).mono ?_;rintro e wy ⟨l,s,u,rfl,g9,d⟩;have j4:=(d.cell (p:=⟨h,0,W⟩) (by have:=C.size;simp at this;simp;omega)).trans l0;have l2:=(d.frozen (p:=⟨h,0,W⟩) (by have:=C.size;simp at this;simp;omega)).trans ((C.frozen (p:=⟨h,0,W⟩) (by simp;omega)).trans k6)))
   all_goals
    have L:=C.trans (d.mono C.size);have h0:V (w.heap.size+4) w2 wy:=f.drew.trans (L.mono k3);have i8:V w w wy:=i4.trans (h0.mono (by omega));have h4:Row (w.heap.size+4) 30 kC wy (I (Z ⟨a1,0,W⟩) N N) D:=ft (w:=wr.drew) T.B0 L;have i1:=keep (w1:=wr.drew) GL.o L;have j1:=keep (w1:=wr.drew) J1.o L;have j2:=keep (w1:=wr.drew) J2.o L;have j5:Wds (wy.setCell ⟨h,0,W⟩ (I l s u)) (I l s u) (S (2*(n/2^(j+1)%m)+b.toNat)):=Wds.B5 g9 i1 (by decide) _ _;have g:V (w.heap.size+4) w2 (wy.setCell ⟨h,0,W⟩ (I l s u)):=h0.setCell (by simp;omega) _;have h5:V w w (wy.setCell ⟨h,0,W⟩ (I l s u)):=i8.setCell (by simp;omega) _;have F:Row (w.heap.size+4) 30 kC (wy.setCell ⟨h,0,W⟩ (I l s u)) (I (Z ⟨a1,0,W⟩) N N) D:=fu h4 i1 (by decide) _ _;have i2:=aB (o:=0) i1 (I l s u);have l1:=(aE (o:=0) (I l s u) (by omega:w.heap.size≠h)).trans j1;have j6:=(aE (o:=0) (I l s u) (by omega:w.heap.size+1≠h)).trans j2;obtain⟨w5,i9⟩:∃w5,wy.setCell ⟨h,0,W⟩ (I l s u)=w5:=⟨_,rfl⟩;rw[i9]at j5 g h5 F i2 l1 j6⊢;clear i9 L h0 i8 h4 i1 j1 j2 g9 d C l0 j4 l2 h9 k6 h7 T f;have C:=G i2;have L:=G j6;have h7:=A i2;have i8:=A F;have W5:=A j5;clear i2 l1 j6 F j5;have F:ac (2*(n/2^(j+1)%m)+b.toNat)<=64*(a0+1):=k9.o;have g9:(S (2*(n/2^(j+1)%m)+b.toNat)).length<=4294967295:=bu (fk F) (by omega);have d:=aGy l a' s a0 u c' (2*(n/2^(j+1)%m)+b.toNat) m w5 W5.o (HW.o w5 h5).2 g9 (by rw[HM.o];omega);have f:=A d;clear d F
    by_cases T:2*(n/2^(j+1)%m)+b.toNat<m
    .have hz:rQ (2*(n/2^(j+1)%m)+b.toNat) m= -1:=if_pos T;have d:=aK1 (N:=n/2^(j+1)) (gv h6) rfl T;rw[hz]at f;rw[<-i7.o]at d;have F:=A d;clear hz d;go_wp2_with fail;refine(f.o).mono ?_;rintro e w6 ⟨rfl,d⟩;have h0:=g.trans (d.mono (by have:=g.size;omega));have h4:=keep h7.o d;have W6:=A (W5.o.A4 d);have h9:=A (i8.o.A4 d);have i1:=A h4;clear h4 d g C L;go_wp2
     go_roundw
     case rel=>
      refine⟨j,D,l,s,u,by omega,rfl,h9.o,j3.o,h8,?_,i1.o,?_,h0⟩
      .rw[j0.o,F.o.2,aHb]
      .rw[F.o.1];exact W6.o
     case measure=>simp[ag]
    .have k7:b.toNat<=1:=by cases b<;>decide
     obtain⟨z,hz,n8⟩:∃z,rQ (2*(n/2^(j+1)%m)+b.toNat) m=z/\0<=z:=⟨_,rfl,by unfold rQ;rw[if_neg T];split<;>decide⟩;have h0:=aI6 (N:=n/2^(j+1)) (gv h6) rfl k7 (by omega);rw[hz]at f;rw[<-i7.o]at h0;have i2:=A h0;have F:=λw6(d:V w5.heap.size w5 w6)=>aKT l a' s a0 u c' (2*(n/2^(j+1)%m)+b.toNat) m w6 (W5.o.A4 d) ((HW.o w5 h5).2.A4 d) g9 (by rw[HM.o];omega) (by omega)
     rw[<-i2.o.1]at F;have i9:=A F;clear hz h0 F;have j5:w.heap.size+4<=w5.heap.size:=bu i5 g.size;have h9:h<w5.heap.size:=di h7.o;go_wp2_with fail;refine(f.o).mono ?_;rintro e w6 ⟨rfl,d⟩;have j6:=(d.cell (p:=⟨h,0,W⟩) h9).trans C;have k6:=(d.cell (p:=⟨w.heap.size+1,0,W⟩) (by simp;omega)).trans L;clear C L;go_wp2_with fail;refine(i9.o _ d).mono ?_;rintro e w7 ⟨a8,k8,c8,rfl,l0,l1⟩;have C:=d.trans (l1.mono d.size);have F:=keep h7.o C;have l2:=i8.o.A4 C;have h0:=g.trans (C.mono j5);have l3:=l0.B5 F (by decide) 0 (I a8 k8 c8);have l4:=aB (o:=0) F (I a8 k8 c8);have L:Row (w.heap.size+4) 30 kC (w7.setCell ⟨h,0,W⟩ (I a8 k8 c8)) (I (Z ⟨a1,0,W⟩) N N) D:=fu l2 F (by decide) _ _;have h4:V (w.heap.size+4) w2 (w7.setCell ⟨h,0,W⟩ (I a8 k8 c8)):=h0.setCell (by simp;omega) _;have m9:=G F;have n0:=bm F;have W9:=A l3;have m4:=A l4;have i1:=A L;have m5:=A h4;have m6:a1<w6.heap.size:=by have:=d.size;omega
     clear j6 k6 d l1 C F l2 h0 l0 l3 l4 L h4 g;obtain⟨q,r,C,d⟩:∃q r,j=64*q+r/\r<64:=⟨j/64,j%64,by omega,by omega⟩;have l0:(j:Int)/64=q:=by omega
     have l1:(j:Int)%64=r:=by omega
     have h4:q<N:=by omega
     have g:q<D.length:=by rw[j3.o];exact h4
     obtain⟨y,hy,F,L⟩:=aK2 h8 C d g j0.o;have l2:(w7.setCell ⟨h,0,W⟩ (I a8 k8 c8)).cell? ⟨a1,q,W⟩=Z (O J (D.getD q 0:Nat)):=i1.o.B3 (lX g);have l3:=i1.o.F0 q;have h0:=i1.o.F8 (i:=q) g y;have l4:=aI8 d;have j4:cj dt J (D.getD q 0:Nat) (2^r)=(y:Int):=by rw[<-hy];simp
     have j6:=A h0;have k6:=A L;clear h0 L C;generalize D.getD q 0=o at*;go_wp2;go_region;go_wp2
     go_roundw
     case rel=>
      refine⟨j,D.set q y,a8,k8,c8,by omega,rfl,j6.o,by simp[j3.o],tS h8 _ F,?_,?_,?_,(m5.o.setCell (p:=⟨a1,q,W⟩) (by simp;omega) _).drew⟩
      .rw[k6.o,i2.o.2]
      .exact(aE _ (by omega)).trans m4.o
      .exact((W9.o.M6 m6 _ _).D6 (bh _)).B0
     case measure=>simp[ag]
def aCz(n:Nat):dw:=if n<18446744073709551616 then ai (af #[O J n,cg true])else ai (af #[O J 0,cg dm])
def pC(a:Option bj)(k c n:Nat)(w:K)(h:Wds w (I a k c) (S n))(x:(S n).length<=4294967296):
 ah ae 256 #[Y #[I a k c]] w λe w'=>e=aCz n/\V w w w':=by
 obtain⟨y,z,u⟩:=bz h;injection u with r o t
 subst r o t;have f:V w w (w.alloc (U #[I a (S n).length c] 381)):=(E _ _).alloc (H _) _;have i:=ek n 0
 by_cases g:n<18446744073709551616
 .have b:(S n).length<=1:=gm (by simpa using g);have j:¬(1<((S n).length:Int)):=by omega
  have d:aCz n=ai (af #[O J n,cg true]):=if_pos g;rw[d];have s:=A (wS a _ c (S n) 0 _ (h.A4 f) (by omega) (by omega));clear d h;go_enter func256,ntmps256;go_wp2_with fail;refine(s.o).mono ?_;rintro e w1 ⟨rfl,p⟩;obtain⟨_,l,_⟩:=after1 p;have q:(S n).getD (jc 0) 0=n:=by rw[show jc 0=0 from rfl,i,gr,gu,ct g]
  rw[q];go_wp2;exact ak (v:=af #[O J n,cg true]) (by simp[ao,jd,go_sem]) rfl ⟨rfl,l⟩
 .have b:¬(S n).length<=1:=λm=>g (by have:=dv m;simpa using this)
  have j:1<((S n).length:Int):=by omega
  have d:aCz n=ai (af #[O J 0,cg dm]):=if_neg g;rw[d];clear d h;go_enter func256,ntmps256;go_wp2;exact ak (v:=af #[O J 0,cg dm]) (by simp[ao,jd,go_sem]) rfl ⟨rfl,f⟩
