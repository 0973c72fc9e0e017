/-
  The program, one part of its walk. Conditions: none.
-/
import Derived.Test.YtakkmiomhackiaaGreatDoorTd04
import Derived.Deep.RegionWith
set_option linter.all false
set_option maxRecDepth 100000
set_option maxHeartbeats 16000000
open Go.Proofs.Tryz
open Bool renaming eq_iff_iff->ck,false->bx,or_eq_true->dt
open Go renaming Addr->bw,Calls->bk,Ending->dh,World->H,bodyPost_ret->bz,cell_of_one->Z,free_of_one->bp,heap_alloc_new->di,lt_of_block->ct,maxLen->cu,results->cg
open Go.BinOp renaming and->ee,or->fe
open Go.Ending renaming returned->ao
open Go.IntKind renaming i64->aw,u64->W,wrap->fm,wrap_u64->cz
open Go.Obj renaming cells->S
open Go.Proofs.Tryz renaming prog->av,results256->fk
open Go.Proofs.YtakkmiomhackiaaGreatDoor.Lim renaming Small->ah,bitlen->cj,bitlen_le->dl,limbs->O,limbs_getD->ei,limbs_length_le->ez,lt_of_limbs_length->cr,short->fh,small_append->ek,small_limbs->eo,val->V,val_append->em,val_limbs->ep,wpow->ar
open Go.Proofs.YtakkmiomhackiaaGreatDoor.Row renaming A8->bm,D6->fi
open Go.RowKit renaming Below->U,intOf->ac
open Go.RowKit.Below renaming refl->ag
open Go.Value renaming agg->K,bool->ae,int->X,nilIface->fg,slice->I,tuple->E
open Int renaming toNat->fj
open List renaming getD->bc,getElem?_set_ne->eu,replicate->et,take_length->ev
open Nat renaming add_eq_zero_iff->du,add_mul->ew,add_zero->dj,div_add_mod->cw,div_div_eq_div_mul->bs,div_eq_of_lt->cv,div_one->dp,le_refl->af,le_trans->bj,lt_of_lt_of_le->eh,mod_eq_of_lt->bh,mod_lt->ba,mod_mul->dy,mod_one->ej,mul_add->bg,mul_add_div->fc,mul_add_mod->fa,mul_assoc->ak,mul_comm->G,mul_eq_zero->dv,mul_left_comm->bu,mul_one->fd,ne_of_gt->dw,pos_of_ne_zero->dq,pow_add->ai,pow_le_pow_right->au,pow_pos->dx,pow_succ->aj,pow_zero->dm,two_pow_pos->co,zero_le->az
open Option renaming none->J,some->Y
namespace Go.Proofs.YtakkmiomhackiaaGreatDoor
open Go.RowKit
def iK(q s j:Nat):Nat:=if j<=q then 18446744073709551616^j else 18446744073709551616^q*2^s
theorem aJy{n q s j:Nat}(h:j<q):(n%iK q s (j+1)!=0)=((n%iK q s j !=0)||(n/18446744073709551616^j%18446744073709551616 !=0)):=by
 unfold iK;rw[if_pos (by omega),if_pos (by omega),m7,ck];simp only[bne_iff_ne,dt,ne_eq,du,dv];have:¬18446744073709551616^j=0:=dw (dx (by decide))
 by_cases a:n%18446744073709551616^j=0<;>simp[a,this]
theorem aJz{n q s:Nat}(b:s<64):(n%iK q s (q+1)!=0)=((n%iK q s q !=0)||(n/18446744073709551616^q%18446744073709551616%2^s !=0)):=by
 unfold iK;rw[if_neg (by omega),if_pos (by omega),dy,Nat.mod_mod_of_dvd _ ⟨2^(64-s),by rw[G];exact oX b⟩,ck];simp only[bne_iff_ne,dt,ne_eq,du,dv];have:¬18446744073709551616^q=0:=dw (dx (by decide))
 by_cases a:n%18446744073709551616^q=0<;>simp[a,this]
theorem aJA{n q s j:Nat}(h:q<j):(n%iK q s (j+1)!=0)=(n%iK q s j !=0):=by
 unfold iK;rw[if_neg (by omega),if_neg (by omega)]
theorem aBq{n q s j k:Nat}(g:s<64)(i:k=64*q+s)(l:q<=j):
 (n/18446744073709551616^(j+1)%18446744073709551616*18446744073709551616+n/18446744073709551616^j%18446744073709551616)/2^s%18446744073709551616=n/2^k/18446744073709551616^(j-q)%18446744073709551616:=by
 have d:n/2^k/18446744073709551616^(j-q)=n/18446744073709551616^j/2^s:=by
  rw[bs,bs,ar,ar,<-ai,<-ai];congr 2;omega
 rw[d,aj,<-bs];generalize n/18446744073709551616^j=m;have c:=co s
 have h:m/18446744073709551616%18446744073709551616*18446744073709551616+m%18446744073709551616=m%(18446744073709551616*18446744073709551616):=by
  rw[dy,G,Nat.add_comm]
 rw[h];have e:=cw m (18446744073709551616*18446744073709551616);generalize m%(18446744073709551616*18446744073709551616)=r at*;generalize m/(18446744073709551616*18446744073709551616)=t at*;rw[<-e]
 have f:18446744073709551616*18446744073709551616*t+r=r+2^s*(18446744073709551616*(2^(64-s)*t)):=by
  have:18446744073709551616*18446744073709551616*t=2^s*(18446744073709551616*(2^(64-s)*t)):=by
   have a:=oX g;generalize 18446744073709551616=b at*;rw[a];simp only[ak,bu,G]
  omega
 rw[f,Nat.add_mul_div_left _ _ c,Nat.add_mul_mod_self_left]
theorem aHD{x s:Nat}(b:x<18446744073709551616)(c:s<64):bits ee W (x:Int) ((2^s-1:Nat):Int)=((x%2^s:Nat):Int):=by
 have a:2^s<=2^63:=au (by decide) (by omega);rw[bits_and_u64_nat _ _ b (by omega),Nat.and_two_pow_sub_one_eq_mod]
theorem aHE{s:Nat}(e:s<64):W.wrap (W.wrap (2^s)-1)=((2^s-1:Nat):Int):=by
 have c:2^s<=2^63:=au (by decide) (by omega);have d:=co s;have b:(2:Int)^s=((2^s:Nat):Int):=by simp
 rw[b];generalize 2^s=y at*;have a:W.wrap (y:Int)=(y:Int):=by rw[cz];omega
 rw[a,cz];omega
theorem aJB{n q s k d:Nat}(c:k=64*q+s)(a:n<18446744073709551616^d):n/2^k%18446744073709551616^(d-q)=n/2^k/\(n%iK q s d !=0)=(n%2^k !=0):=by
 have e:2^k=18446744073709551616^q*2^s:=by rw[c,ai,ar]
 have b:18446744073709551616^q<=2^k:=by rw[e];exact Nat.le_mul_of_pos_right _ (co s)
 refine⟨bh (Nat.div_lt_of_lt_mul (eh a ?_)),?_⟩
 .refine bj ?_ (Nat.mul_le_mul_right _ b);rw[<-ai];exact au (by decide) (by omega)
 .unfold iK;split
  .rename_i h;have:18446744073709551616^d<=2^k:=bj (au (by decide) h) b;rw[bh a,bh (eh a this)]
  .rw[e]
def aJC(w:H)(n:Nat)(b:Bool)(e:dh)(w':H):Prop:=∃a k c,e=ao (E #[K #[I a k c],ae b])/\Wds w' (I a k c) (O n)/\U w.heap.size w w'
theorem aHF(a b:Int)(w:H):(Instr.field 422 (K #[X W a,X W b]) 1).run av w=.ok (X W b) w:=by kernel_rfl
theorem uI(a:Option bw)(kk c n k:Nat)(w:H)(l:Wds w (I a kk c) (O n))(hl:(O n).length<=4294967295)(hk8:k<=4294967295):
 bk av 255 #[K #[I a kk c],X aw k] w λe w'=>aJC w (n/2^k) (n%2^k !=0) e w':=by
 have hmax:max (k:Int) 0=k:=by omega
 have hb0:U w.heap.size w ((w.alloc (S #[I a kk c] 381)).alloc (S #[I J 0 0] 381)):=((ag _ _).alloc (af _) _).alloc (by simp) _;obtain⟨va,vc,he⟩:=bm l;injection he with h1 h p
 subst h1 h p;have HCS:=L l.E3;have f:=cr (n:=n) (af _);have HNB:=L f;have d:∀i,(O n).getD i 0=n/18446744073709551616^i%18446744073709551616:=ei n;have HGET:=L d;have HW:M (∀wx,U w.heap.size w wx->Wds wx (I a (O n).length c) (O n)):=λwx hx=>l.A5 hx
 clear l f d;obtain⟨q,s,d,u⟩:∃q s,k=64*q+s/\s<64:=⟨k/64,k%64,by omega,by omega⟩;have hfld:=aHF;have hkq:(k:Int)/64=q:=by omega
 have hks:(k:Int)%64=s:=by omega
 have HQS:=L d;clear d;generalize d:(O n).length=a0 at*;have HL:=L d;clear d;have d:w.heap.size+2=((w.alloc (S #[I a a0 c] 381)).alloc (S #[I J 0 0] 381)).heap.size:=by simp
 have HB1:=L d;clear d;go_enter func255,ntmps255;go_wp2_with fail
 go_loopw [15,6,7,8,9] (λi b o _ _ wr=>∃(j:Nat)(r:List Nat),j<=a0/\i=X aw j/\b=ae (n%iK q s j !=0)/\Row (w.heap.size+2) 30 jX wr o r/\r.length=j-q/\ah r/\V r=n/2^k%18446744073709551616^(j-q)/\
  U w.heap.size w wr/\wr.heap[w.heap.size]?=Y (S #[I a a0 c] 381 (0,0))/\wr.heap[w.heap.size+1]?=Y (S #[I J 0 0] 381 (0,0))) (λi _ _ _ _ _=>a0-(ac i).toNat)
 case atStart=>exact⟨0,[],az _,rfl,by simp[iK,ej],Row.E0 _ _ _ _,by simp,(λx hx=>by cases hx),by simp[V,ej],hb0,(Below.heap_alloc _ _ _ (by simp)).trans (di w _),by simpa using di (w.alloc (S #[I a a0 c] 381)) (S #[I J 0 0] 381)⟩
 case round=>
  obtain⟨j,r,hj,rfl,rfl,l,t,hsr,d,f,g1,A⟩:=hrel;have hc1:=Z g1;have G1:=L g1;have G2:=L A;have HV:=L d;have HR:=L t;clear g1 A d t
  by_cases hlt:j<a0
  .rcases HCS.o with⟨_,hn⟩|⟨g,cap,he,hg,_,_,d⟩
   .have:=HL.o;rw[hn]at this;simp at this;omega
   .injection he with h1 h p
    have hcl:wr.cell? ⟨g,j,J⟩=Y (X W ((O n).getD j 0:Nat)):=(f.cell (by simpa using hg)).trans (d j hlt);subst h1;rw[HGET.o]at hcl;have hxl:n/18446744073709551616^j%18446744073709551616<18446744073709551616:=ba _ (by decide);clear d h p;generalize d:n/18446744073709551616^j%18446744073709551616=x at*;have HX:=L d;clear d;obtain⟨b0,d⟩:∃b0,(n%iK q s j !=0)=b0:=⟨_,rfl⟩;have HB0:=L d;rw[d];clear d;rcases Nat.lt_trichotomy j q with R|R|R
    .have t:=aJy (n:=n) (s:=s) R;rw[HB0.o,HX.o]at t;have hjq2:j+1-q=j-q:=by omega
     have d:((x:Int)!=0)=(x !=0):=by rw[ck];simp
     have HG:=L t;have h:=L hjq2;have HN:=L d;clear t hjq2 d;cases b0
     all_goals
      go_wp2
      go_roundw
      case rel=>
       refine⟨j+1,r,by omega,by go_num,?_,l,by rw[h.o];exact HR.o,hsr,by rw[h.o];exact HV.o,f,G1.o,G2.o⟩;rw[HG.o]
       first|rfl|(rw[HN.o];rfl)
      case measure=>simp[ac];omega
    .obtain rfl:j=q:=R;obtain⟨y,T⟩:∃y,n/18446744073709551616^(j+1)%18446744073709551616=y:=⟨_,rfl⟩;have hyl:y<18446744073709551616:=T▸ba _ (by decide);have N:=qI (Y ⟨g,0,J⟩) a0 c n y (j+1) wr (HW.o wr f) (by omega) T;rw[show((j+1:Nat):Int)=(j:Int)+1 from by omega]at N;have HWD:=L N;have C:=aBq (n:=n) u HQS.o (af _);rw[T,HX.o]at C;obtain⟨z,hz⟩:∃z,(y*18446744073709551616+x)/2^s%18446744073709551616=z:=⟨_,rfl⟩;have hzl:z<18446744073709551616:=hz▸ba _ (by decide);rw[hz]at C;have HZ:=L hz;have HZV:=L C;have t:=aJz (n:=n) (q:=j) u;rw[HX.o,HB0.o]at t;obtain⟨m,hm⟩:∃m,x%2^s=m:=⟨_,rfl⟩;have hmask:bits ee W (x:Int) (W.wrap (W.wrap (2^s)-1))=(m:Int):=by rw[aHE u,aHD hxl u,hm]
     rw[hm]at t;have d:((m:Int)!=0)=(m !=0):=by rw[ck];simp
     have HG:=L t;have HN:=L d;clear t d T hz C hm N;cases b0
     all_goals
      go_wp2_with fail;refine(HWD.o).mono ?_;rintro e wx ⟨rfl,P⟩;go_wp2_with fail
      try simp only[hks]
      refine(aBp y x s _ hyl hxl u).mono ?_;rintro e wy ⟨⟨h',rfl⟩,hby⟩;have d:=P.trans (hby.mono P.size);have h:=(l.A5 d).A4 (S #[X W ((y*18446744073709551616+x)/2^s%18446744073709551616:Nat)] 30);have A:=chain f d;have gy1:=keep G1.o d;have Q:=keep G2.o d;have hszy:w.heap.size+2<=wy.heap.size:=ct Q;have GY1:=L gy1;have GY2:=L Q;have F:=(l.A5 d).lt;rw[HZ.o]at h⊢;clear l f P hby d gy1 Q hcl hc1
      go_wp2_with (at_builtin;refine cQ m5 rfl _ _ rfl rfl h ⟨wy.heap.size,0,J⟩ 1 z rfl ?_ rfl ?_ ?_ ?_ ?_)
      .simp
      .have:=HR.o;omega
      .have:=HR.o;unfold cu;omega
      .simp;omega
      intro b cap w3 B p;have D:U (w.heap.size+2) wy w3:=((ag _ _).alloc (by omega) _).grown p (by simp;omega) (λk hk=>(F k hk).1);have HR2:=L B;have HG1:=L ((D.block _ (by omega)).trans GY1.o);have HG2:=L ((D.block _ (by omega)).trans GY2.o);have hbf:U w.heap.size w w3:=A.trans (D.mono (by omega));clear B p h F D A;go_wp2
      go_roundw
      case rel=>
       refine⟨j+1,r++ [z],by omega,by go_num,?_,HR2.o,by first|(simp[HR.o];done)|(simp[HR.o];omega),ek.2 ⟨hsr,λy T=>by simp at T;omega⟩,?_,hbf,HG1.o,HG2.o⟩
       .rw[HG.o]
        first|rfl|(rw[HN.o];rfl)
       .have e:j+1-j=(j-j)+1:=by omega
        rw[e,m7,em,HR.o,HV.o,HZV.o];simp[V]
      case measure=>simp[ac];omega
    .obtain⟨y,T⟩:∃y,n/18446744073709551616^(j+1)%18446744073709551616=y:=⟨_,rfl⟩;have hyl:y<18446744073709551616:=T▸ba _ (by decide);have N:=qI (Y ⟨g,0,J⟩) a0 c n y (j+1) wr (HW.o wr f) (by omega) T;rw[show((j+1:Nat):Int)=(j:Int)+1 from by omega]at N;have HWD:=L N;have C:=aBq (n:=n) u HQS.o (Nat.le_of_lt R);rw[T,HX.o]at C;obtain⟨z,hz⟩:∃z,(y*18446744073709551616+x)/2^s%18446744073709551616=z:=⟨_,rfl⟩;have hzl:z<18446744073709551616:=hz▸ba _ (by decide);rw[hz]at C;have HZ:=L hz;have HZV:=L C;have t:=aJA (n:=n) (s:=s) R;rw[HB0.o]at t;have hjq2:((j:Int)==(q:Int))=bx:=by rw[beq_eq_false_iff_ne];omega
     have HG:=L t;clear t T hz C N;cases b0
     all_goals
      go_wp2_with fail;refine(HWD.o).mono ?_;rintro e wx ⟨rfl,P⟩;go_wp2_with fail
      try simp only[hks]
      refine(aBp y x s _ hyl hxl u).mono ?_;rintro e wy ⟨⟨h',rfl⟩,hby⟩;have d:=P.trans (hby.mono P.size);have h:=(l.A5 d).A4 (S #[X W ((y*18446744073709551616+x)/2^s%18446744073709551616:Nat)] 30);have A:=chain f d;have gy1:=keep G1.o d;have Q:=keep G2.o d;have hszy:w.heap.size+2<=wy.heap.size:=ct Q;have GY1:=L gy1;have GY2:=L Q;have F:=(l.A5 d).lt;rw[HZ.o]at h⊢;clear l f P hby d gy1 Q hcl hc1
      go_wp2_with (at_builtin;refine cQ m5 rfl _ _ rfl rfl h ⟨wy.heap.size,0,J⟩ 1 z rfl ?_ rfl ?_ ?_ ?_ ?_)
      .simp
      .have:=HR.o;omega
      .have:=HR.o;unfold cu;omega
      .simp;omega
      intro b cap w3 B p;have D:U (w.heap.size+2) wy w3:=((ag _ _).alloc (by omega) _).grown p (by simp;omega) (λk hk=>(F k hk).1);have HR2:=L B;have HG1:=L ((D.block _ (by omega)).trans GY1.o);have HG2:=L ((D.block _ (by omega)).trans GY2.o);have hbf:U w.heap.size w w3:=A.trans (D.mono (by omega));clear B p h F D A;go_wp2
      go_roundw
      case rel=>
       refine⟨j+1,r++ [z],by omega,by go_num,?_,HR2.o,by first|(simp[HR.o];done)|(simp[HR.o];omega),ek.2 ⟨hsr,λy T=>by simp at T;omega⟩,?_,hbf,HG1.o,HG2.o⟩
       .rw[HG.o]
       .have e:j+1-q=(j-q)+1:=by omega
        rw[e,m7,em,HR.o,HV.o,HZV.o];simp[V]
      case measure=>simp[ac];omega
  .have h:j=a0:=by omega
   subst h;have d:=aJB (n:=n) HQS.o HNB.o;have p:V r=n/2^k:=by rw[HV.o];exact d.1
   have C:=L p;have D:=L d.2;clear d p;go_wp2_with fail;refine(jK _ r _ hsr (l.I3 (az _))).mono ?_;rintro e P ⟨a3,A,B,rfl,hm,d⟩;rw[C.o]at hm;have p:=keep G2.o d;have t:=Z p;have F:=bp p;have hbf:=chain f d;have N:=L hm;clear hm f l hc1;go_wp2;refine bz (v:=E #[K #[I a3 A B],ae (n%2^k !=0)]) ?_ rfl ⟨a3,A,B,rfl,N.o.D6 p (by decide) _ _,hbf.setCell (by simp) _⟩;rw[<-D.o];simp[cg,results255,go_sem,t]
theorem aAs{l:List Nat}{p:Nat}(a:p<l.length)(y:Nat):V (l.set p y)+18446744073709551616^p*l.getD p 0=V l+18446744073709551616^p*y:=by
 induction l generalizing p with
 | nil=>simp at a
 | cons x l b=>
  cases p with
  | zero=>simp[V];omega
  | succ p=>
   have:=b (p:=p) (by simpa using a);simp only[List.set_cons_succ,V,aj];have e:(x::l).getD (p+1) 0=l.getD p 0:=by simp[bc]
   rw[e];have d:18446744073709551616^p*18446744073709551616*l.getD p 0=18446744073709551616*(18446744073709551616^p*l.getD p 0):=by rw[G (18446744073709551616^p),ak]
   have c:18446744073709551616^p*18446744073709551616*y=18446744073709551616*(18446744073709551616^p*y):=by rw[G (18446744073709551616^p),ak]
   rw[d,c];omega
theorem sF{l:List Nat}(h:ah l)(p:Nat){y:Nat}(b:y<18446744073709551616):ah (l.set p y):=λx c=>by
 rcases List.mem_or_eq_of_mem_set c with a|a
 .exact h x a
 .subst a;exact b
theorem aHG{x y o a d hi c c1 b c2:Nat}(l:x<18446744073709551616)(g:y<18446744073709551616)(f:o<18446744073709551616)(e:a<18446744073709551616)(j:d+18446744073709551616*hi=x*y)(h:c+18446744073709551616*c1=d+o)(k:b+18446744073709551616*c2=c+a):
 b+18446744073709551616*(hi+c1+c2)=x*y+o+a/\hi+c1+c2<18446744073709551616:=by
 have i:x*y<=18446744073709551615*18446744073709551615:=Nat.mul_le_mul (by omega) (by omega);omega
theorem aHH{v d P b R x o c a y:Nat}(f:d+P*o=v+P*c)(h:v+P*b=R)(g:c+18446744073709551616*a=x*y+o+b):d+P*18446744073709551616*a=R+P*(x*y):=by
 have e:P*c+P*(18446744073709551616*a)=P*(x*y)+P*o+P*b:=by rw[<-bg,g,bg,bg]
 rw[ak P];omega
theorem aHI(j k x q y:Nat):18446744073709551616^j*(x*(q+18446744073709551616^k*y))=18446744073709551616^j*(x*q)+18446744073709551616^(j+k)*(x*y):=by
 rw[bg,bg,ai,bu x,ak]
theorem getD_lt{l:List Nat}(h:ah l)(i:Nat):l.getD i 0<18446744073709551616:=by
 rw[bc];cases a:l[i]? with
 | none=>decide
 | some x=>exact h x (List.mem_of_getElem? a)
theorem lO{l:List Nat}{i:Nat}(h:i<l.length):l[i]?=Y (l.getD i 0):=by rw[bc,List.getElem?_eq_getElem h];rfl
theorem aJD(a a':Option bw)(k k' c c' n m:Nat)(w:H)(d:Wds w (I a k c) (O n))(b:Wds w (I a' k' c') (O m))(hl:(O n).length<=1048576)(hl':(O m).length<=1048576):
 bk av 232 #[K #[I a k c],K #[I a' k' c']] w λe w'=>oH w (aHw (n*m)) (aDh (n*m)) e w':=by
 obtain⟨va,vc,he⟩:=bm d;injection he with Q q u
 subst Q q u;obtain⟨va',vc',he⟩:=bm b;injection he with Q q u
 subst Q q u;have HCS:=L d.E3;have HCS':=L b.E3;clear d b;have hsm:=eo n;have hsm':=eo m;have b:=ep n;have f:=ep m;generalize r:O n=l at*;generalize h:O m=d at*;have HVN:=L b;have HVM:=L f;clear r h b f;have h:U w.heap.size w (((w.alloc (S #[I a l.length c] 381)).alloc (S #[I a' d.length c'] 381)).alloc (S #[I J 0 0] 381)):=(((ag _ _).alloc (af _) _).alloc (by simp) _).alloc (by simp;omega) _;have b:U (((w.alloc (S #[I a l.length c] 381)).alloc (S #[I a' d.length c'] 381)).alloc (S #[I J 0 0] 381)).heap.size (((w.alloc (S #[I a l.length c] 381)).alloc (S #[I a' d.length c'] 381)).alloc (S #[I J 0 0] 381)) (((w.alloc (S #[I a l.length c] 381)).alloc (S #[I a' d.length c'] 381)).alloc (S #[I J 0 0] 381)):=ag _ _;obtain⟨g1,f,r,_,_⟩:=sC b;have G1:=L g1;have G2:=L f;have G3:=L r;clear g1 f r b;obtain⟨N,r⟩:∃N,l.length+d.length+1=N:=⟨_,rfl⟩;have hNc:((l.length:Int)+(d.length:Int)+1)=(N:Int):=by omega
 go_enter func232,ntmps232
 go_wp2_with (at_make;refine qF (B:=w.heap.size+3) (enc:=jX) 0 aDg rfl _ _ rfl _ _ _ _ N N rfl rfl ?_ ?_ ?_ ?_ ?_ ?_ ?_)
 .first|rfl|omega
 .first|rfl|omega
 .omega
 .omega
 .unfold cu;omega
 .simp
 intro w1 f b;have hsz1:w.heap.size+3<=w1.heap.size:=by have:=b.size;simp at this;omega
 have hbw:U w.heap.size w w1:=h.trans (b.mono (by omega));have G1':=L ((b.block _ (by omega)).trans G1.o);have G2':=L ((b.block _ (by omega)).trans G2.o);have G3':=L ((b.block _ (by omega)).trans G3.o);have HN:=L r;have HR0:=L f;have hc1:=Z G1'.o;clear h b f r;obtain⟨A,b⟩:∃A,w.heap.size+1+1+1=A:=⟨_,rfl⟩;have hA3:w.heap.size+3<=A:=by omega
 simp only[b]at HR0⊢;clear b;go_wp2_with fail
 go_loopw [27] (λi wr=>∃(j:Nat)(r:List Nat),j<=l.length/\i=X aw j/\Row (w.heap.size+3) 30 jX wr (I (Y ⟨A,0,J⟩) N N) r/\r.length=N/\ah r/\V r=V (l.take j)*m/\
  (∀p,j+d.length<=p->r.getD p 0=0)/\U (w.heap.size+3) w1 wr) (λi _=>l.length-(ac i).toNat)
 case atStart=>exact⟨0,et N 0,az _,rfl,HR0.o.I3 hA3,by simp,m8 N,by have:=sE N [];simp[V]at this;simp[V,this],(λp _=>by simp[bc,List.getElem?_replicate];split<;>rfl),ag _ _⟩
 case round=>
  obtain⟨j,r,hj,rfl,D,b,hss,h,s,f⟩:=hrel;obtain⟨wo,rfl⟩:∃wo:H,wo=wr:=⟨_,rfl⟩;have HV:=L h;have HZ:=L s;have T:=L b;clear h s b;have hc2:=Z ((f.block _ (by omega)).trans G2'.o)
  by_cases hlt:j<l.length
  .rcases HCS.o with⟨_,hn⟩|⟨g,cap,he,hg,_,_,b⟩
   .subst hn;simp at hlt
   .injection he with Q q u
    have hx:=getD_lt hsm j;have hcl:wo.cell? ⟨g,j,J⟩=Y (X W (l.getD j 0:Nat)):=(f.cell (by simp;omega)).trans ((hbw.cell hg).trans (b j hlt));subst Q;clear b q u;have b:=gR hlt;generalize h:l.getD j 0=x at*;have HT:=L b;clear b h;go_wp2_with fail
    go_loopw [35,9] (λi mo wr=>∃(k R:Nat)(t:List Nat),k<=d.length/\i=X aw k/\mo=X W R/\R<18446744073709551616/\Row (w.heap.size+3) 30 jX wr (I (Y ⟨A,0,J⟩) N N) t/\t.length=N/\ah t/\
     V t+18446744073709551616^(j+k)*R=V (l.take j)*m+18446744073709551616^j*(x*V (d.take k))/\(∀p,j+d.length<=p->t.getD p 0=0)/\U (w.heap.size+3) w1 wr) (λi _ _=>d.length-(ac i).toNat)
    case atStart=>exact⟨0,0,r,az _,rfl,rfl,by decide,D,T.o,hss,by simp[V,HV.o],HZ.o,f⟩
    case round=>
     obtain⟨k,R,t,hk,rfl,rfl,hm0,b,z,F,h,P,s⟩:=hrel;have HV2:=L h;have HZ2:=L P;have C:=L z;clear h P D f hc2 hcl
     by_cases hkt:k<d.length
     .rcases HCS'.o with⟨_,hn⟩|⟨g',cap',he',hg',_,_,h⟩
      .subst hn;simp at hkt
      .injection he' with Q q u
       have hy:=getD_lt hsm' k;have hcl':wr.cell? ⟨g',k,J⟩=Y (X W (d.getD k 0:Nat)):=(s.cell (by simp;omega)).trans ((hbw.cell hg').trans (h k hkt));subst Q;clear h q u;have q:=gR hkt;have ho:=getD_lt F (j+k);have u:j+k<t.length:=by have:=HN.o;omega
       have hco:wr.cell? ⟨A,j+k,J⟩=Y (X W (t.getD (j+k) 0:Nat)):=b.B5 (lO u);have h:=λy=>aAs (l:=t) u y
       generalize P:d.getD k 0=y at*;generalize hO:t.getD (j+k) 0=o at*;have HT':=L q;have HSET:=L h;have hNb:j+k<N:=by have:=HN.o;omega
       have hfree:=b.K6 (j+k);clear q h P hO u z;go_wp2_with fail;refine(oW x y hx hy _).mono ?_;rintro e w' ⟨hi,lo,rfl,rfl,hmul,hlo,hhi⟩;obtain⟨s1,c1,q,hs1,hcy1,hrun1⟩:=mI lo o hlo ho;obtain⟨s2,c2,P,hs2,hcy2,hrun2⟩:=mI s1 R hs1 hm0;obtain⟨hw1,hw2⟩:=aHG hx hy ho hm0 hmul q P;have HW1:=L hw1;clear hmul q P hw1;go_wp2_with fail
       go_roundw
       case rel=>
        have P:=b.M3 (i:=j+k) (by rw[C.o];omega) s2;refine⟨k+1,hi+c1+c2,t.set (j+k) s2,by omega,by go_num,by go_num,hw2,P,by simp[C.o],sF F _ hs2,?_,?_,s.setCell (by simpa using hA3) _⟩
        .rw[HT'.o,aHI,show j+(k+1)=j+k+1 from rfl,aj,<-Nat.add_assoc];exact aHH (HSET.o s2) HV2.o HW1.o
        .intro p hp;rw[bc,eu (by omega)];exact HZ2.o p hp
       case measure=>simp[ac];omega
     .have hkl:k=d.length:=by omega
      have u:j+d.length<t.length:=by have:=HN.o;omega
      have h:=aAs (l:=t) u R;rw[HZ2.o _ (af _),Nat.mul_zero,dj]at h
      have q:V (t.set (j+d.length) R)=V (l.take (j+1))*m:=by
       have Q:=HV2.o;rw[hkl,ev,HVM.o]at Q;rw[h,Q,HT.o,ew,ak]
      have HF:=L q;have hc2:=Z ((s.block _ (by omega)).trans G2'.o);have hfree:=b.K6 (j+d.length);have hco:wr.cell? ⟨A,j+d.length,J⟩=Y (X W (t.getD (j+d.length) 0:Nat)):=b.B5 (lO u);have P:=b.M3 (i:=j+d.length) u R;have Q:=sF F (j+d.length) hm0
      have hz3:∀p,j+1+d.length<=p->(t.set (j+d.length) R).getD p 0=0:=λp hp=>by
       rw[bc,eu (by omega)];exact HZ2.o p (by omega)
      have HST:=L P;have HZ3:=L hz3;generalize t.getD (j+d.length) 0=o at*;clear h q hkl u P hz3 z;go_wp2_with fail
      go_roundw
      case rel=>exact⟨j+1,t.set (j+d.length) R,by omega,by go_num,HST.o,by simp[C.o],Q,HF.o,HZ3.o,s.setCell (by simpa using hA3) _⟩
      case measure=>simp[ac];omega
  .have h:j=l.length:=by omega
   have q:V r=n*m:=by rw[HV.o,h,ev,HVN.o]
   have HF:=L q
   have b:(O (n*m)).length<=4294967296:=by
    have s:=Lim.val_lt hss;rw[q]at s;have:=ez s;have:=T.o;have:=HN.o;omega
   have s:U w.heap.size w wo:=hbw.trans (f.mono (by omega));have P:=(f.block _ (by omega)).trans G3'.o;clear q h;go_wp2_with fail;refine(jK _ r _ hss (D.I3 (az _))).mono ?_;rintro e w3 ⟨a3,k3,c3,rfl,u,h⟩;rw[HF.o]at u;go_wp2_with fail;refine(m6 a3 k3 c3 (n*m) _ u b).mono ?_;rintro e w4 ⟨a4,Q,R,rfl,q,t⟩;have z:=keep (keep P h) t;have C:=Z z;have hf5:=bp z;have F:=chain (chain s h) t;have HM:=L q;clear u q P f D hc2;go_wp2;exact bz (v:=E #[K #[I a4 Q R],aDh (n*m)]) (by simp[cg,results232,go_sem,C]) rfl ⟨a4,Q,R,rfl,HM.o.D6 z (by decide) _ _,F.setCell (by simp;omega) _⟩
theorem aJE(n i:Nat):n/2^i=2*(n/2^(i+1))+(n.testBit i).toNat:=by
 rw[aj,<-bs,Nat.testBit_eq_decide_div_mod_eq];generalize n/2^i=N
 by_cases h:N%2=1<;>simp[h]<;>omega
theorem aFT(q j:Nat):q*2^(j+1)=2*q*2^j:=by rw[aj,G (2^j) 2,<-ak,G q 2]
theorem aJF{N R m b:Nat}(c:0<m)(a:N%m=R)(h:2*R+b<m):(2*N+b)%m=2*R+b/\(2*N+b)/m=2*(N/m):=by
 have e:=cw N m;have d:2*N+b=m*(2*(N/m))+(2*R+b):=by rw[<-a];rw[<-a]at h;have:m*(2*(N/m))=2*(m*(N/m)):=bu _ _ _;omega
 rw[d];exact⟨by rw[fa,bh h],by rw[fc c,cv h,dj]⟩
theorem aHJ{N R m b:Nat}(c:0<m)(f:N%m=R)(i:b<=1)(h:m<=2*R+b):(2*N+b)%m=2*R+b-m/\(2*N+b)/m=2*(N/m)+1:=by
 have e:=cw N m;have d:R<m:=f▸ba N c;have g:2*N+b=m*(2*(N/m)+1)+(2*R+b-m):=by rw[bg,fd];have:m*(2*(N/m))=2*(m*(N/m)):=bu _ _ _;omega
 have a:2*R+b-m<m:=by omega
 rw[g];exact⟨by rw[fa,bh a],by rw[fc c,cv a,dj]⟩
theorem aHK{l:List Nat}(h:ah l)(i:Nat):l.getD i 0=V l/18446744073709551616^i%18446744073709551616:=by
 induction l generalizing i with
 | nil=>simp[V]
 | cons x l a=>
  obtain⟨c,b⟩:=Lim.small_cons.1 h;cases i with
  | zero=>simp[V];omega
  | succ i=>
   have e:(x::l).getD (i+1) 0=l.getD i 0:=by simp[bc]
   rw[e,a b,V,aj,G (18446744073709551616^i),<-bs];congr 2;omega
theorem aJG{l:List Nat}{q r i Q:Nat}(h:ah l)(hi:i=64*q+r)(p:r<64)(g:q<l.length)(f:V l=Q*2^(i+1)):
 ∃y:Nat,bits fe W (l.getD q 0:Nat) ((2^r:Nat):Int)=(y:Int)/\y<18446744073709551616/\V (l.set q y)=(2*Q+1)*2^i:=by
 have d:2^r<18446744073709551616:=by have:=au (n:=2) (by decide) (by omega:r<=63);omega
 have k:=aHK h q
 have m:V l/18446744073709551616^q=Q*2^(r+1):=by
  rw[f,ar,hi,show 64*q+r+1=64*q+(r+1)from rfl,ai,bu,Nat.mul_div_cancel_left _ (co _)]
 have j:l.getD q 0=2^(r+1)*(Q%2^(64-(r+1))):=by
  rw[k,m,show(18446744073709551616:Nat)=2^(r+1)*2^(64-(r+1)) by rw[<-ai,show r+1+(64-(r+1))=64 by omega],G Q,Nat.mul_mod_mul_left]
 have b:l.getD q 0||| 2^r=l.getD q 0+2^r:=by
  rw[j];exact(Nat.two_pow_add_eq_or_of_lt (Nat.pow_lt_pow_right (by decide) (by omega)) _).symm
 have a:=getD_lt h q
 have c:l.getD q 0+2^r<18446744073709551616:=by
  rw[<-b];exact Nat.or_lt_two_pow (n:=64) a d
 refine⟨l.getD q 0+2^r,?_,c,?_⟩
 .rw[bits_or_u64_nat _ _ a d,b]
 .have e:=aAs g (l.getD q 0+2^r);rw[bg]at e;have o:18446744073709551616^q*2^r=2^i:=by rw[ar,<-ai,hi]
  rw[o]at e;have:V (l.set q (l.getD q 0+2^r))=V l+2^i:=by omega
  rw[this,f,aj,ew,Nat.one_mul,G (2^i) 2,<-ak,G Q 2]
theorem aHL{r:Nat}(h:r<64):W.wrap (2^r)=((2^r:Nat):Int):=by
 have a:=au (n:=2) (by decide) (by omega:r<=63);rw[show((2:Int)^r)=((2^r:Nat):Int) by simp];generalize 2^r=x at*
 show fm W (x:Int)=x
 rw[cz];omega
theorem Row.R5{d:Type}{B e:Nat}{enc:d->Value}{w:H}{v:Value}{l:List d}(h:Row B e enc w v l){b:Nat}(c:b<B)(o:Nat)(u:Value):Row B e enc (w.setCell ⟨b,o,J⟩ u) v l:=
 ownsRow_setCell_other h (λa=>by have:=(Row.lt h _ a).1;simp at this;omega) u
def aJH(w:H)(n m:Nat)(e:dh)(w':H):Prop:=∃a k c b f d,e=ao (E #[K #[I a k c],K #[I b f d],fg])/\Wds w' (I a k c) (O n)/\Wds w' (I b f d) (O m)/\U w.heap.size w w'
theorem aFh(a a':Option bw)(k k' c c' n m:Nat)(w:H)(h:Wds w (I a k c) (O n))(g:Wds w (I a' k' c') (O m))(hl:(O n).length<=1048576)(hl':(O m).length<=1048576)(hm0:m≠0):
 bk av 254 #[K #[I a k c],K #[I a' k' c']] w λe w'=>aJH w (n/m) (n%m) e w':=by
 obtain⟨va,vc,he⟩:=bm h;injection he with h1 h2 f
 subst h1 h2 f;obtain⟨va',vc',he⟩:=bm g;injection he with h1 h2 f
 subst h1 h2 f
 have d:((O m).length:Int)≠0:=by
  have:=(Lim.bitlen_limbs hm0).2;omega
 have hne:(((O m).length:Int)==0)=bx:=by rw[beq_eq_false_iff_ne];exact d
 have hbl:cj n<=64*(O n).length:=dl.2 (by rw[<-ar];exact cr (af _));have HLEN:M (∀x,U w.heap.size w x->bk av 252 #[K #[I a (O n).length c]] x λe w'=>e=ao (X aw (cj n))/\U x.heap.size x w'):=λx hx=>uH a _ c n x (h.A5 hx) (by omega)
 have HW:M (∀x,U w.heap.size w x->Wds x (I a (O n).length c) (O n)/\Wds x (I a' (O m).length c') (O m)):=λx hx=>⟨h.A5 hx,g.A5 hx⟩
 have HBIT:M (∀(x:H)(j:Nat),U w.heap.size w x->(j:Int)<=4294967296->bk av 257 #[K #[I a (O n).length c],X aw j] x λe w'=>e=ao (ae (n.testBit j))/\U x.heap.size x w'):=λx j hx hj=>qG a c n j x (h.A5 hx) (by omega) hj
 clear h g d;have d:=Lim.lt_bitlen (n:=n);have HNB:=L d;clear d;generalize d:(O m).length=a0 at*;generalize g:(O n).length=N at*;have HM:=L d;clear d g;generalize d:cj n=bl at*;clear d;obtain⟨w0,d⟩:∃w0,w0=((((w.alloc (S #[I a N c] 381)).alloc (S #[I a' a0 c'] 381)).alloc (S #[I J 0 0] 381)).alloc (S #[I J 0 0] 381)):=⟨_,rfl⟩;have u:w0.heap.size=w.heap.size+4:=by rw[d];simp
 have h:w0.heap[w.heap.size+3]?=Y (S #[I J 0 0] 381 (0,0)):=by rw[d];simpa using di (((w.alloc (S #[I a N c] 381)).alloc (S #[I a' a0 c'] 381)).alloc (S #[I J 0 0] 381)) (S #[I J 0 0] 381)
 have f:U (((w.alloc (S #[I a N c] 381)).alloc (S #[I a' a0 c'] 381)).alloc (S #[I J 0 0] 381)).heap.size (((w.alloc (S #[I a N c] 381)).alloc (S #[I a' a0 c'] 381)).alloc (S #[I J 0 0] 381)) w0:=by
  rw[d];exact(ag _ _).alloc (af _) _
 obtain⟨g1,l,g3,g,_⟩:=sC f;have G1:=L g1;have G2:=L l;have G3:=L g3;have G4:=L h;have HW0:=L d;clear g1 l g3 h f d;go_enter func254,ntmps254;go_wp2_with fail
 go_step3
 go_wp2_with (at_make;refine qF (B:=w.heap.size+4) (enc:=jX) 0 aDg rfl _ _ rfl _ _ _ _ N N rfl rfl ?_ ?_ ?_ ?_ ?_ ?_ ?_)
 .first|rfl|omega
 .first|rfl|omega
 .omega
 .omega
 .unfold cu;omega
 .simp
 rw[show((((w.alloc (S #[I a N c] 381)).alloc (S #[I a' a0 c'] 381)).alloc (S #[I J 0 0] 381)).alloc (S #[I J 0 0] 381))=w0 from HW0.o.symm];intro w1 f h;have d:U (w.heap.size+4) w0 w1:=h.mono (by omega);have s:w.heap.size+4<=w1.heap.size:=by have:=h.size;omega
 have l:U w.heap.size w w1:=g.trans (d.mono (by omega));have G1':=L ((d.block _ (by omega)).trans G1.o);have G2':=L ((d.block _ (by omega)).trans G2.o);have G3':=L ((d.block _ (by omega)).trans G3.o);have G4':=L ((d.block _ (by omega)).trans G4.o);have hlt1:w.heap.size+1+1+1+1<w1.heap.size:=(f.lt _ rfl).2;obtain⟨A,C⟩:∃A,w.heap.size+1+1+1+1=A:=⟨_,rfl⟩;have hA4:w.heap.size+4<=A:=by omega
 rw[C]at f hlt1⊢;have hc1:=Z G1'.o;have HR0:=L f;have hbwl:U w.heap.size w (w1.alloc (S #[I J 0 0] 381)):=l.alloc (by omega) _;have hcl1:(w1.alloc (S #[I J 0 0] 381)).cell? ⟨w.heap.size,0,J⟩=Y (I a N c):=by rw[World.cell?_alloc_lt _ _ ⟨w.heap.size,0,J⟩ (by simp;omega)];exact hc1
 clear h d u C f hc1 g;go_wp2_with fail
 go_step3
 go_wp2_with fail;refine(HLEN.o _ hbwl).mono ?_;rintro e w2 ⟨rfl,f⟩;obtain⟨u,d,hszL⟩:=after1 f;have hbw2:=chain l d;have K1:=L (keep G1'.o d);have K2:=L (keep G2'.o d);have K3:=L (keep G3'.o d);have K4:=L (keep G4'.o d);have HR2:=L (HR0.o.A5 d);obtain⟨h,g⟩:∃h,w1.heap.size=h:=⟨_,rfl⟩;rw[g]at u hlt1 hszL⊢
 have hL4:w.heap.size+4<h:=by omega
 have KL:=L u;clear u f d l g s;have hbl2:w.heap.size+4<=w2.heap.size:=by omega
 go_wp2_with fail
 go_loopw [9] (λi wr=>∃(t:Nat)(D:List Nat)(Q:Option bw)(R T:Nat),t<=bl/\i=X aw ((t:Int)-1)/\Row (w.heap.size+4) 30 jX wr (I (Y ⟨A,0,J⟩) N N) D/\D.length=N/\ah D/\V D=n/2^t/m*2^t/\
  wr.heap[h]?=Y (S #[I Q R T] 381 (0,0))/\Wds wr (I Q R T) (O (n/2^t%m))/\U (w.heap.size+4) w2 wr) (λi _=>(ac i+1).toNat)
 case atStart=>exact⟨bl,et N 0,J,0,0,af _,rfl,HR2.o.I3 hA4,by simp,m8 N,by rw[cv HNB.o];have:=sE N [];simp[V]at this;simp[this],KL.o,by rw[cv HNB.o,Nat.zero_mod,Lim.limbs_zero];exact Wds.E0 _,ag _ _⟩
 case round=>
  obtain⟨t,D,Q,R,T,ht,rfl,hrow,d,hqs,l,g,s,f⟩:=hrel;have HQV:=L l;have HQL:=L d;have GL:=L g;have WL:=L s;have hszr:w.heap.size+4<=wr.heap.size:=bj hbl2 f.size;have hltL:h<wr.heap.size:=ct g;have hbwr:U w.heap.size w wr:=hbw2.trans (f.mono (by omega));have J1:=L ((f.block _ (by omega)).trans K1.o);have J2:=L ((f.block _ (by omega)).trans K2.o);have J3:=L ((f.block _ (by omega)).trans K3.o);have J4:=L ((f.block _ (by omega)).trans K4.o);clear l d g s;rcases Nat.eq_zero_or_pos t with rfl|htp
  .have hcL:=Z GL.o;go_wp2_with fail
   go_region_with (first|(go_at_call 249;refine(jK _ D _ hqs ((hrow.A9).I3 (az _))).mono ?_;rintro e wy ⟨l,s,u,rfl,hw5,d⟩;have hy2:=(d.cell (p:=⟨h,0,J⟩) (by simp;omega)).trans hcL;have hy3:=Z ((d.block _ (by simp;omega)).trans J3.o);have hy4:=Z ((d.block _ (by simp;omega)).trans J4.o);have hf3:=bp ((d.block _ (by simp;omega)).trans J3.o);have hf4:=bp ((d.block _ (by simp;omega)).trans J4.o)))
   all_goals
    have g3:=(d.block _ (by simp;omega)).trans J3.o;have g4:=(d.block _ (by simp;omega)).trans J4.o;have C:=(WL.o.A9).A5 d;rw[HQV.o,dm,dp,fd]at hw5;rw[dm,dp]at C;go_wp2_with fail;have s3:=aB (o:=0) g3 (I l s u);have g:=(aE (o:=0) (I l s u) (by omega:w.heap.size+3≠w.heap.size+2)).trans g4;have s4:=aB (o:=0) g (I Q R T);have F:=(aE (o:=0) (I Q R T) (by omega:w.heap.size+2≠w.heap.size+3)).trans s3;have P:=Z F;have hr4:=Z s4;have hbf:U w.heap.size w ((wy.setCell ⟨w.heap.size+2,0,J⟩ (I l s u)).setCell ⟨w.heap.size+3,0,J⟩ (I Q R T)):=(((hbwr.drew).trans (d.mono (by simp;omega))).setCell (p:=⟨w.heap.size+2,0,J⟩) (by simp) _).setCell (p:=⟨w.heap.size+3,0,J⟩) (by simp) _;have hf5:=(hw5.D6 g3 (by decide) 0 (I l s u)).D6 g (by decide) 0 (I Q R T);have hf6:=(C.D6 g3 (by decide) 0 (I l s u)).D6 g (by decide) 0 (I Q R T);rw[Exit.noGoto_ret];exact bz (v:=E #[K #[I l s u],K #[I Q R T],fg]) (by simp[cg,results254,go_sem,P,hr4]) rfl ⟨l,s,u,Q,R,T,rfl,hf5,hf6,hbf⟩
  .obtain⟨j,rfl⟩:∃j,t=j+1:=⟨t-1,by omega⟩;have g:((j+1:Nat):Int)-1=(j:Int):=by omega
   rw[g];clear g;have hj64:(j:Int)<=4294967296:=by omega
   have hc1:=Z J1.o;have hcL:=Z GL.o;have hfL:=bp GL.o;obtain⟨b,C⟩:∃b,n.testBit j=b:=⟨_,rfl⟩;have g:=HBIT.o wr.drew j hbwr.drew hj64;rw[C]at g;have HBT:=L g;have HBB:=L C;clear g C;have F:n/2^(j+1)%m<m:=ba _ (dq hm0);have P:m<2^(64*a0):=by rw[<-ar,<-HM.o];exact cr (af _)
   have hshort:(O (n/2^(j+1)%m)).length<=4294967295:=bj (fh (k:=a0) (dl.2 (by omega))) (by omega)
   have C:cj (2*(n/2^(j+1)%m)+b.toNat)<=64*(a0+1):=dl.2 (by
    have hb1:b.toNat<=1:=by cases b<;>decide
    have:2^(64*a0+1)<=2^(64*(a0+1)):=au (by decide) (by omega);rw[aj]at this;omega)
   have g:=aJE n j;rw[HBB.o]at g;have HNB2:=L g;have HR2B:=L C;clear C P F g;go_wp2_with fail
   go_region_with (first|(go_at_call 257;refine(HBT.o).mono ?_;rintro e x ⟨rfl,C⟩;have hx2:=(C.cell (p:=⟨h,0,J⟩) (by simp;omega)).trans hcL)|(go_at_call 275;refine(aFS Q R T (n/2^(j+1)%m) b _ ((WL.o.A9).A5 C) hshort).mono ?_;rintro e wy ⟨l,s,u,rfl,hw5,d⟩;have hy2:=(d.cell (p:=⟨h,0,J⟩) (by have:=C.size;simp at this;simp;omega)).trans hx2;have hyf:=(d.frozen (p:=⟨h,0,J⟩) (by have:=C.size;simp at this;simp;omega)).trans ((C.frozen (p:=⟨h,0,J⟩) (by simp;omega)).trans hfL)))
   all_goals
    have P:=C.trans (d.mono C.size);have hbez:U (w.heap.size+4) w2 wy:=f.drew.trans (P.mono hszr);have hbwz:U w.heap.size w wy:=hbw2.trans (hbez.mono (by omega));have hrowz:Row (w.heap.size+4) 30 jX wy (I (Y ⟨A,0,J⟩) N N) D:=Row.A5 (w:=wr.drew) hrow.A9 P;have gL0:=keep (w1:=wr.drew) GL.o P;have j1:=keep (w1:=wr.drew) J1.o P;have j2:=keep (w1:=wr.drew) J2.o P;have hW5:Wds (wy.setCell ⟨h,0,J⟩ (I l s u)) (I l s u) (O (2*(n/2^(j+1)%m)+b.toNat)):=Wds.D6 hw5 gL0 (by decide) _ _;have g:U (w.heap.size+4) w2 (wy.setCell ⟨h,0,J⟩ (I l s u)):=hbez.setCell (by simp;omega) _;have hbw5:U w.heap.size w (wy.setCell ⟨h,0,J⟩ (I l s u)):=hbwz.setCell (by simp;omega) _;have F:Row (w.heap.size+4) 30 jX (wy.setCell ⟨h,0,J⟩ (I l s u)) (I (Y ⟨A,0,J⟩) N N) D:=fi hrowz gL0 (by decide) _ _;have gL5:=aB (o:=0) gL0 (I l s u);have j15:=(aE (o:=0) (I l s u) (by omega:w.heap.size≠h)).trans j1;have j25:=(aE (o:=0) (I l s u) (by omega:w.heap.size+1≠h)).trans j2;obtain⟨w5,hw5e⟩:∃w5,wy.setCell ⟨h,0,J⟩ (I l s u)=w5:=⟨_,rfl⟩;rw[hw5e]at hW5 g hbw5 F gL5 j15 j25⊢;clear hw5e P hbez hbwz hrowz gL0 j1 j2 hw5 d C hx2 hy2 hyf hcL hfL hc1 hrow f;have C:=Z gL5;have P:=Z j25;have GL5:=L gL5;have HR5:=L F;have W5:=L hW5;clear gL5 j15 j25 F hW5;have F:cj (2*(n/2^(j+1)%m)+b.toNat)<=64*(a0+1):=HR2B.o;have hsh2:(O (2*(n/2^(j+1)%m)+b.toNat)).length<=4294967295:=bj (fh F) (by omega);have d:=aFf l a' s a0 u c' (2*(n/2^(j+1)%m)+b.toNat) m w5 W5.o (HW.o w5 hbw5).2 hsh2 (by rw[HM.o];omega);have f:=L d;clear d F
    by_cases hlow:2*(n/2^(j+1)%m)+b.toNat<m
    .have hz:qH (2*(n/2^(j+1)%m)+b.toNat) m= -1:=if_pos hlow;have d:=aJF (N:=n/2^(j+1)) (dq hm0) rfl hlow;rw[hz]at f;rw[<-HNB2.o]at d;have F:=L d;clear hz d;go_wp2_with fail;refine(f.o).mono ?_;rintro e w6 ⟨rfl,d⟩;have hbe6:=g.trans (d.mono (by have:=g.size;omega));have gL6:=keep GL5.o d;have W6:=L (W5.o.A5 d);have HR6:=L (HR5.o.A5 d);have GL6:=L gL6;clear gL6 d g C P;go_wp2_with fail
     go_roundw
     case rel=>
      refine⟨j,D,l,s,u,by omega,rfl,HR6.o,HQL.o,hqs,?_,GL6.o,?_,hbe6⟩
      .rw[HQV.o,F.o.2,aFT]
      .rw[F.o.1];exact W6.o
     case measure=>simp[ac]
    .have hb1:b.toNat<=1:=by cases b<;>decide
     obtain⟨z,hz,hz0⟩:∃z,qH (2*(n/2^(j+1)%m)+b.toNat) m=z/\0<=z:=⟨_,rfl,by unfold qH;rw[if_neg hlow];split<;>decide⟩;have hdh:=aHJ (N:=n/2^(j+1)) (dq hm0) rfl hb1 (by omega);rw[hz]at f;rw[<-HNB2.o]at hdh;have HDH:=L hdh;have F:=λw6(d:U w5.heap.size w5 w6)=>aJx l a' s a0 u c' (2*(n/2^(j+1)%m)+b.toNat) m w6 (W5.o.A5 d) ((HW.o w5 hbw5).2.A5 d) hsh2 (by rw[HM.o];omega) (by omega)
     rw[<-HDH.o.1]at F;have HSUB:=L F;clear hz hdh F;have hsz5:w.heap.size+4<=w5.heap.size:=bj hbl2 g.size;have hltL5:h<w5.heap.size:=ct GL5.o;go_wp2_with fail;refine(f.o).mono ?_;rintro e w6 ⟨rfl,d⟩;have hcL6:=(d.cell (p:=⟨h,0,J⟩) hltL5).trans C;have hc26:=(d.cell (p:=⟨w.heap.size+1,0,J⟩) (by simp;omega)).trans P;clear C P;go_wp2_with fail;refine(HSUB.o _ d).mono ?_;rintro e w7 ⟨a8,k8,c8,rfl,hw8,hb7⟩;have C:=d.trans (hb7.mono d.size);have F:=keep GL5.o C;have HR7:=HR5.o.A5 C;have hbe7:=g.trans (C.mono hsz5);have hw9:=hw8.D6 F (by decide) 0 (I a8 k8 c8);have gL9:=aB (o:=0) F (I a8 k8 c8);have P:Row (w.heap.size+4) 30 jX (w7.setCell ⟨h,0,J⟩ (I a8 k8 c8)) (I (Y ⟨A,0,J⟩) N N) D:=fi HR7 F (by decide) _ _;have hbe9:U (w.heap.size+4) w2 (w7.setCell ⟨h,0,J⟩ (I a8 k8 c8)):=hbe7.setCell (by simp;omega) _;have hcL7:=Z F;have hfL7:=bp F;have W9:=L hw9;have GL9:=L gL9;have HR9:=L P;have HB9:=L hbe9;have hA6:A<w6.heap.size:=by have:=d.size;omega
     clear hcL6 hc26 d hb7 C F HR7 hbe7 hw8 hw9 gL9 P hbe9 g;obtain⟨q,r,C,d⟩:∃q r,j=64*q+r/\r<64:=⟨j/64,j%64,by omega,by omega⟩;have hjq:(j:Int)/64=q:=by omega
     have hjr:(j:Int)%64=r:=by omega
     have hqN:q<N:=by omega
     have g:q<D.length:=by rw[HQL.o];exact hqN
     obtain⟨y,hy,F,P⟩:=aJG hqs C d g HQV.o;have hcq:(w7.setCell ⟨h,0,J⟩ (I a8 k8 c8)).cell? ⟨A,q,J⟩=Y (X W (D.getD q 0:Nat)):=HR9.o.B5 (lO g);have hfq:=HR9.o.K6 q;have hst:=HR9.o.M3 (i:=q) g y;have hpw:=aHL d;have hy2:bits fe W (D.getD q 0:Nat) (2^r)=(y:Int):=by rw[<-hy];simp
     have HST:=L hst;have HYV:=L P;clear hst P C;generalize D.getD q 0=o at*;go_wp2_with fail;go_region;go_wp2_with fail
     go_roundw
     case rel=>
      refine⟨j,D.set q y,a8,k8,c8,by omega,rfl,HST.o,by simp[HQL.o],sF hqs _ F,?_,?_,?_,(HB9.o.setCell (p:=⟨A,q,J⟩) (by simp;omega) _).drew⟩
      .rw[HYV.o,HDH.o.2]
      .exact(aE _ (by omega)).trans GL9.o
      .exact((W9.o.R5 hA6 _ _).I3 (az _)).A9
     case measure=>simp[ac]
def aBr(n:Nat):dh:=if n<18446744073709551616 then ao (E #[X W (n:Int),ae true])else ao (E #[X W 0,ae bx])
theorem oI(a:Option bw)(k c n:Nat)(w:H)(h:Wds w (I a k c) (O n))(x:(O n).length<=4294967296):
 bk av 256 #[K #[I a k c]] w λe w'=>e=aBr n/\U w.heap.size w w':=by
 obtain⟨y,z,u⟩:=bm h;injection u with r o t
 subst r o t;have f:U w.heap.size w (w.alloc (S #[I a (O n).length c] 381)):=(ag _ _).alloc (af _) _;have i:=ei n 0
 by_cases g:n<18446744073709551616
 .have b:(O n).length<=1:=ez (by simpa using g);have j:¬(1<((O n).length:Int)):=by omega
  have d:aBr n=ao (E #[X W (n:Int),ae true]):=if_pos g;rw[d];have s:=L (uQ a _ c (O n) 0 _ (h.A5 f) (by omega) (by omega));clear d h;go_enter func256,ntmps256;go_wp2_with fail;refine(s.o).mono ?_;rintro e w1 ⟨rfl,p⟩;obtain⟨_,l,_⟩:=after1 p;have q:(O n).getD (fj 0) 0=n:=by rw[show fj 0=0 from rfl,i,dm,dp,bh g]
  rw[q];go_wp2;exact bz (v:=E #[X W (n:Int),ae true]) (by simp[cg,fk,go_sem]) rfl ⟨rfl,l⟩
 .have b:¬(O n).length<=1:=λm=>g (by have:=cr m;simpa using this)
  have j:1<((O n).length:Int):=by omega
  have d:aBr n=ao (E #[X W 0,ae bx]):=if_neg g;rw[d];clear d h;go_enter func256,ntmps256;go_wp2;exact bz (v:=E #[X W 0,ae bx]) (by simp[cg,fk,go_sem]) rfl ⟨rfl,f⟩
end Go.Proofs.YtakkmiomhackiaaGreatDoor
