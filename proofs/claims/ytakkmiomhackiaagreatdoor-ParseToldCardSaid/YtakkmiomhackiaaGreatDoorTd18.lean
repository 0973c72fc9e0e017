/-
  The program, one part of its walk. Conditions: none.
-/
import Derived.Test.YtakkmiomhackiaaGreatDoorTd16
set_option linter.all false
set_option maxRecDepth 100000
set_option maxHeartbeats 16000000
open Go.Proofs.Tryz
open Bool renaming false->Q,true->ag
open Decidable renaming byContradiction->gv
open Go renaming Addr->bh,Calls->T,Value->ah,World->Z,below_drewN->dp,bodyPost_ret->ar,cell_of_one->ew,heap_alloc_new->co,info_parts->du,maxLen->bj,results->au
open Go.Ending renaming returned->ae
open Go.IntKind renaming i64->U,u64->bu,wrap_i64->bx
open Go.Lib renaming run_eql_slice_nil->fd
open Go.Obj renaming cells->A
open Go.Proofs renaming intOf->av
open Go.Proofs.Tryz renaming func162->cz,func164->dv,func187->fa,func201->eu,func89->cv,ntmps162->dh,ntmps164->dw,ntmps187->fc,ntmps201->ev,ntmps89->cw,prog->E,results145->gu,results164->dx,results199->et,underlying32->dt,underlying50->fz
open Go.Proofs.YtakkmiomhackiaaGreatDoor.Fig renaming Small->ga,figs->G,figs_getD->go,figs_length_le->gk,figs_zero->gc,lt_of_figs_length->ez,val->dl
open Go.Proofs.YtakkmiomhackiaaGreatDoor.Lim renaming bitlen->aj,bitlen_gt->ej,bitlen_le->ek
open Go.Proofs.YtakkmiomhackiaaGreatDoor.Row renaming A8->gn,E0->gd
open Go.Proofs.YtakkmiomhackiaaGreatDoor.aR renaming I4->fg
open Go.RowKit renaming Below->af
open Go.RowKit.Below renaming heap_alloc->fe,refl->P
open Go.Value renaming agg->ak,bool->ba,int->O,slice->J,string->aw,tuple->cu
open Go.World renaming cell?_alloc_lt->gj
open Int renaming natCast_zero->gh
open List renaming getD->ep,getElem?_eq_none->ge,length_cons->fi,takeWhile_cons->fh
open Nat renaming add_comm->fj,add_mul->bc,add_sub_cancel->di,div_add_mod->eh,div_div_eq_div_mul->eo,div_eq_of_lt->dy,div_le_div_right->gl,div_lt_iff_lt_mul->fu,eq_zero_or_pos->dm,le_antisymm->ft,le_div_iff_mul_le->fv,le_of_eq->cg,le_of_lt->fk,le_refl->H,le_trans->bw,lt_of_le_of_lt->gm,lt_of_lt_of_le->ct,lt_or_ge->dj,lt_trichotomy->ei,mod_eq_of_lt->bk,mod_lt->ee,mod_two_eq_zero_or_one->fw,mul_assoc->ao,mul_comm->bz,mul_le_mul_left->gp,mul_le_mul_right->ac,mul_le_mul_right_iff->fm,mul_mul_mul_comm->em,mul_pos->bs,mul_right_comm->cj,not_le->fq,one_mul->bp,pow_add->R,pow_le_pow_right->dq,pow_pos->ck,pow_succ->bm,pow_zero->gr,two_pow_pos->ai,zero_le->cr,zero_mul->gq
open Option renaming none->I,some->V
open Or renaming inl->bg,inr->az
open UInt8.toNat renaming inj->gw
namespace Go.Proofs.YtakkmiomhackiaaGreatDoor
open Go.RowKit
theorem rA:kQ 32 9 1 16:=⟨dt,by decide,by
 have h:(E.info? 9).map (λi=>(i.zero,i.size,i.bytes))=V (V (aw ⟨#[]⟩),1,16):=by kernel_rfl
 obtain⟨i,c,a,d,b⟩:=du h;exact⟨i,_,c,a,d,b,rfl⟩⟩
def aAE(w:Z)(keys:List (List UInt8))(e:Ending)(w':Z):Prop:=
 ∃v,e=ae v/\Win 9 encS w' v keys/\(∀k,v.ownBlock=V k->w.heap.size<=k/\k<w'.heap.size)/\af w.heap.size w w'
theorem x7(w:Z):T E 164 #[J I 0 0] w λe w'=>aAE w [] e w':=by
 have f:∀(w:Z)(a:Option bh)(n c b d:Nat),(binOp .eql 32 (J a n c) (J I b d)).run E w=.ok (ba a.isNone) w:=λw a n c b d=>fd w _ _ a n c b d dt
 go_enter dv,dw;go_wp2_with fail;exact ar (v:=J I 0 0) (by simp[au,dx,go_sem]) rfl ⟨_,rfl,.E0 _ _ _,λk h=>(by cases h),P _ _⟩
theorem vO(w:Z)(g off cap:Nat)(keys:List (List UInt8))(q:keys.length<=1048576)(f:∀i x,(keys.map encS)[i]?=V x->w.cell? ⟨g,off+i,I⟩=V x):
 T E 164 #[J (V ⟨g,off,I⟩) keys.length cap] w λe w'=>aAE w keys e w':=by
 have h:af w.heap.size w (w.alloc (A #[] 9)):=(P _ _).alloc (H _) _;have d:=co w (A #[] 9);have l:aR 1 9 (w.alloc (A #[] 9)) (J (V ⟨w.heap.size,0,I⟩) 0 0) 0 []:=⟨by simp,az ⟨w.heap.size,0,0,#[],rfl,d,H _,by simp,cr _,λj u o=>by simp at o⟩⟩;have s:=L h;have p:=L l;have t:=L q;have m:=L (λv(C:v∈keys.map encS)=>show v.oneCell'=ag by obtain⟨k,_,rfl⟩:=List.mem_map.1 C;rfl)
 have b:∀j u,(keys.map encS)[j]?=V u->(w.alloc (A #[] 9)).cell? ((⟨g,off,I⟩:bh).add j)=V u:=by
  intro j u o;have y:(⟨g,off,I⟩:bh).add j=⟨g,off+j,I⟩:=by unfold Addr.add;split<;>simp_all
  rw[y];have r:=f j u o;exact(World.cell?_of_block (fe _ _ _ (World.block_lt_of_cell? w _ r))).trans r
 have D:=L b;clear h d l q f b;have F:∀(w:Z)(a:Option bh)(n c l q:Nat),(binOp .eql 32 (J a n c) (J I l q)).run E w=.ok (ba a.isNone) w:=λw a n c l q=>fd w _ _ a n c l q dt
 by_cases d:keys= []
 .subst d;go_enter dv,dw
  go_wp2_with (at_builtin;refine qR rA rfl _ _ rfl rfl p.o (V ⟨g,off,I⟩) cap rfl ?_)
  go_wp2_with fail;exact ar (v:=J (V ⟨w.heap.size,0,I⟩) 0 0) (by simp[au,dx,go_sem]) rfl ⟨_,rfl,fg (by simpa using p.o),λk f=>(by cases f;exact⟨H _,by simp⟩),s.o⟩
 .obtain⟨n,h⟩:∃n,keys.length=n+1:=⟨keys.length-1,by have:=List.length_pos_iff.2 d;omega⟩;rw[h];have b:=L h;clear d h;go_enter dv,dw
  go_wp2_with (at_builtin;refine dD rA rfl _ _ rfl rfl p.o ⟨g,off,I⟩ (n+1) cap (keys.map encS) rfl ?_ D.o ?_ ?_ ?_ ?_ ?_)
  .rw[List.length_map,b.o];omega
  .exact m.o
  .omega
  .have:=t.o;rw[b.o]at this;omega
  .have:=t.o;rw[b.o]at this;unfold bj;omega
  intro K d c w' y z h;have r:=L y;have N:=L z;have B:=L h;clear y z h;go_wp2_with fail;refine ar (v:=J (V ⟨K,d,I⟩) (n+1) c) (by simp[au,dx,go_sem]) rfl ?_;refine⟨_,rfl,?_,?_,?_⟩
  .exact fg (n:=n+1) (by simpa using r.o)
  .intro k h;cases h;rcases N.o with f|f
   .cases f;exact⟨H _,ct (by simp) B.o.size⟩
   .exact⟨bw (by simp) f.1,f.2⟩
  .exact((Keeps.A1 (λ_=>False) s.o).B9 B.o (λk f=>az (by cases f;exact H _))).B3 (H _) (λ_ f=>f.elim)
theorem x8(w:Z)(j:ah)(keys:List (List UInt8))(f:keys.length<=1048576)(d:Win 9 encS w j keys):T E 164 #[j] w λe w'=>aAE w keys e w':=by
 rcases d with⟨rfl,rfl⟩|⟨g,off,cap,c,rfl,h,-,-,-,hi⟩
 .exact x7 w
 .refine vO w g off cap keys f (λi x a=>?_);rw[List.getElem?_map]at a;cases b:keys[i]? with
  | none=>rw[b]at a;cases a
  | some y=>
   rw[b]at a;cases a;rw[aA h];exact hi i y b
theorem aDF(w:Z):T E 280 #[J I 0 0,O U 0,O U 0,.func (.func 240) #[] #[]] w λe w'=>e=ae (cu #[])/\w'=w:=by
 go_enter func280,ntmps280;go_wp2_with fail
 go_loop [8] (λv=>v=O U 1) (λv=>0)
 case atStart=>rfl
 case round=>
  subst hrel;go_wp2_with fail
  go_end0
  exact⟨rfl,rfl⟩
theorem aJR(w:Z)(l:Nat):T E 259 #[J I 0 0,O U 0,O U 0,O U l,.func (.func 240) #[] #[]] w λe w'=>e=ae (cu #[])/\w'=w:=by
 go_enter func259,ntmps259;go_wp2_with fail
 go_loop [1,2] (λa b=>a=O U 0/\b=O U 0) (λ_ _=>0)
 case atStart=>exact⟨rfl,rfl⟩
 case round=>
  obtain⟨rfl,rfl⟩:=hrel;go_wp2_with fail;refine(aDF w).mono ?_;rintro e w1 ⟨rfl,rfl⟩;go_wp2_with fail;exact ar (v:=cu #[]) (by simp[au,results259,go_sem]) rfl ⟨rfl,rfl⟩
theorem aIe(w:Z):T E 239 #[J I 0 0,.func (.func 240) #[] #[]] w λe w'=>e=ae (cu #[])/\w'=w:=by
 have a:=L (Tryz.Q6 0 w (by decide) (by decide));go_enter func239,ntmps239;go_wp2_with fail;refine(a.o).mono ?_;rintro e w1 ⟨rfl,rfl⟩;go_wp2_with fail;refine(aJR _ _).mono ?_;rintro e w2 ⟨rfl,rfl⟩;go_wp2_with fail
 go_end0
 exact⟨rfl,rfl⟩
theorem aZ{s:ByteArray}{i:Nat}(h:i<s.size):s.data.toList.drop i=s[i]::s.data.toList.drop (i+1):=by
 have a:i<s.data.toList.length:=by simpa using h
 rw[List.drop_eq_getElem_cons a];rfl
theorem dA{s:ByteArray}{i:Nat}(h:¬i<s.size):s.data.toList.drop i= []:=List.drop_eq_nil_of_le (by simpa using h)
theorem aIf(c:UInt8):isD c=(decide (48<=c.toNat)&&decide (c.toNat<=57)):=rfl
theorem aDG{s:ByteArray}{k:Nat}(h:cF (s.data.toList.drop k)=ag):k<s.size/\over (s.data.toList.drop k)=over (s.data.toList.drop (k+1))+1:=by
 have a:k<s.size:=gv λe=>by rw[dA e]at h;cases h
 refine⟨a,?_⟩;rw[aZ a]at h⊢;have h:isD s[k]=ag:=h;unfold over;rw[fh,if_pos h,fi]
theorem aFp{s:ByteArray}{k:Nat}(h:cF (s.data.toList.drop k)=Q):over (s.data.toList.drop k)=0:=by
 by_cases a:k<s.size
 .rw[aZ a]at h⊢;have h:isD s[k]=Q:=h;unfold over;rw[fh,if_neg (by rw[h];decide)];rfl
 .rw[dA a];rfl
theorem vP(w:Z)(s:ByteArray)(i:Nat):T E 89 #[aw s,O U i] w λe w'=>e=ae (ba (cF (s.data.toList.drop i)))/\w'=w:=by
 by_cases h:i<s.size
 .have a:cF (s.data.toList.drop i)=isD s[i]:=by rw[aZ h];rfl
  rw[a,aIf];have b:(i:Int)<(s.size:Int):=by omega
  by_cases a1:48<=s[i].toNat
  .have b1:(48:Int)<=((s[i].toNat:Nat):Int):=by omega
   by_cases a2:s[i].toNat<=57
   .have b2:((s[i].toNat:Nat):Int)<=57:=by omega
    rw[decide_eq_true a1,decide_eq_true a2];go_enter cv,cw;go_wp2_with fail;go_ret;exact⟨rfl,rfl⟩
   .have b2:¬((s[i].toNat:Nat):Int)<=57:=by omega
    rw[decide_eq_true a1,decide_eq_false a2];go_enter cv,cw;go_wp2_with fail;go_ret;exact⟨rfl,rfl⟩
  .have b1:¬(48:Int)<=((s[i].toNat:Nat):Int):=by omega
   rw[decide_eq_false a1];go_enter cv,cw;go_wp2_with fail;go_ret;exact⟨rfl,rfl⟩
 .have a:cF (s.data.toList.drop i)=Q:=by rw[dA h];rfl
  rw[a];have b:¬(i:Int)<(s.size:Int):=by omega
  go_enter cv,cw;go_wp2_with fail;go_ret;exact⟨rfl,rfl⟩
theorem aGj(w:Z)(s:ByteArray)(i:Nat)(hi:i<=s.size)(l:s.size<=2147483648):T E 119 #[aw s,O U i] w λe w'=>e=ae (O U ((i+over (s.data.toList.drop i):Nat):Int))/\w'=w:=by
 obtain⟨r,c⟩:∃r,i+over (s.data.toList.drop i)=r:=⟨_,rfl⟩;rw[c];have h:=L (λW k=>vP W s k);go_enter func119,ntmps119;go_wp2_with fail
 go_loopw [1] (λv wr=>∃k:Nat,v=O U k/\k<=s.size/\k+over (s.data.toList.drop k)=r/\w=wr) (λv _=>s.size-(av v).toNat)
 case atStart=>exact⟨i,rfl,hi,c,rfl⟩
 case round=>
  obtain⟨k,rfl,-,a,rfl⟩:=hrel;have d:=L a;clear a;go_wp2_with fail;refine(h.o _ _).mono ?_;rintro e w1 ⟨rfl,rfl⟩;cases b:cF (s.data.toList.drop k)with
  | true=>
   obtain⟨j,f⟩:=aDG b;have g:=d.o;have m:U.wrap ((k:Int)+1)=(k:Int)+1:=by rw[bx];omega
   clear b;go_wp2_with fail;exact⟨⟨k+1,by go_num,by omega,by omega,trivial⟩,by simp[av];omega⟩
  | false=>
   have f:=aFp b;have g:=d.o;obtain rfl:k=r:=by omega
   clear b;go_wp2_with fail;go_ret;exact⟨rfl,rfl⟩
theorem tE(w:Z)(s:ByteArray)(i:Nat):T E 162 #[aw s,O U i] w λe w'=>e=ae (ba (cF (s.data.toList.drop i)))/\w'=w:=by
 by_cases h:i<s.size
 .have a:cF (s.data.toList.drop i)=isD s[i]:=by rw[aZ h];rfl
  rw[a,aIf];have b:(i:Int)<(s.size:Int):=by omega
  by_cases a1:48<=s[i].toNat
  .have b1:(48:Int)<=((s[i].toNat:Nat):Int):=by omega
   by_cases a2:s[i].toNat<=57
   .have b2:((s[i].toNat:Nat):Int)<=57:=by omega
    rw[decide_eq_true a1,decide_eq_true a2];go_enter cz,dh;go_wp2_with fail;go_ret;exact⟨rfl,rfl⟩
   .have b2:¬((s[i].toNat:Nat):Int)<=57:=by omega
    rw[decide_eq_true a1,decide_eq_false a2];go_enter cz,dh;go_wp2_with fail;go_ret;exact⟨rfl,rfl⟩
  .have b1:¬(48:Int)<=((s[i].toNat:Nat):Int):=by omega
   rw[decide_eq_false a1];go_enter cz,dh;go_wp2_with fail;go_ret;exact⟨rfl,rfl⟩
 .have a:cF (s.data.toList.drop i)=Q:=by rw[dA h];rfl
  rw[a];have b:¬(i:Int)<(s.size:Int):=by omega
  go_enter cz,dh;go_wp2_with fail;go_ret;exact⟨rfl,rfl⟩
theorem aDH(w:Z)(s:ByteArray)(i:Nat)(hi:i<=s.size)(l:s.size<=2147483648):T E 161 #[aw s,O U i] w λe w'=>e=ae (O U ((i+over (s.data.toList.drop i):Nat):Int))/\w'=w:=by
 obtain⟨r,c⟩:∃r,i+over (s.data.toList.drop i)=r:=⟨_,rfl⟩;rw[c];have h:=L (λW k=>tE W s k);go_enter func161,ntmps161;go_wp2_with fail
 go_loopw [1] (λv wr=>∃k:Nat,v=O U k/\k<=s.size/\k+over (s.data.toList.drop k)=r/\w=wr) (λv _=>s.size-(av v).toNat)
 case atStart=>exact⟨i,rfl,hi,c,rfl⟩
 case round=>
  obtain⟨k,rfl,-,a,rfl⟩:=hrel;have d:=L a;clear a;go_wp2_with fail;refine(h.o _ _).mono ?_;rintro e w1 ⟨rfl,rfl⟩;cases b:cF (s.data.toList.drop k)with
  | true=>
   obtain⟨j,f⟩:=aDG b;have g:=d.o;have m:U.wrap ((k:Int)+1)=(k:Int)+1:=by rw[bx];omega
   clear b;go_wp2_with fail;exact⟨⟨k+1,by go_num,by omega,by omega,trivial⟩,by simp[av];omega⟩
  | false=>
   have f:=aFp b;have g:=d.o;obtain rfl:k=r:=by omega
   clear b;go_wp2_with fail;go_ret;exact⟨rfl,rfl⟩
def fL(b:Nat):Nat:=if b/4503599627370496%2048=0 then b%4503599627370496 else b%4503599627370496+4503599627370496
def m4(b:Nat):Nat:=b/4503599627370496%2048-1
def iJ(b:Nat):Nat:=fL b*2^m4 b
theorem vS{C e m:Nat}(h:m<C):(e*C+m)/C=e/\(e*C+m)%C=m:=by
 have a:0<C:=by omega
 rw[fj,Nat.add_mul_div_right _ _ a,dy h,Nat.zero_add,Nat.add_mul_mod_self_right,bk h];exact⟨rfl,rfl⟩
theorem zJ{b:Nat}(h:b<9218868437227405312):iJ (b+1)=iJ b+2^m4 b:=by
 unfold iJ fL m4;obtain⟨e,m,g,rfl⟩:∃e m,m<4503599627370496/\b=e*4503599627370496+m:=⟨b/4503599627370496,b%4503599627370496,ee _ (by decide),by rw[bz];exact(eh _ _).symm⟩;have l:e<2047:=by omega
 obtain⟨j,i⟩:=vS (e:=e) g;rw[j,i,bk (show e<2048 by omega)]
 by_cases n:m+1=4503599627370496
 .have a:=vS (C:=4503599627370496) (e:=e+1) (m:=0) (by decide);rw[show(e+1)*4503599627370496+0=e*4503599627370496+m+1 by omega]at a;obtain⟨f,d⟩:=a;rw[f,d,bk (show e+1<2048 by omega),if_neg (by omega)]
  by_cases c:e=0
  .subst c;rw[if_pos rfl];simp;omega
  .rw[if_neg c];obtain⟨k,rfl⟩:∃k,e=k+1:=⟨e-1,by omega⟩;rw[di,di,bm];have:m=4503599627370495:=by omega
   subst this;omega
 .have a:=vS (C:=4503599627370496) (e:=e) (m:=m+1) (by omega);rw[<-Nat.add_assoc]at a;obtain⟨f,d⟩:=a;rw[f,d,bk (show e<2048 by omega)]
  by_cases c:e=0
  .subst c;simp
  .rw[if_neg c,if_neg c,Nat.add_right_comm,bc _ 1,bp]
theorem aFr{a b:Nat}(h:a<b)(f:b<=9218868437227405312):iJ a<iJ b:=by
 induction b with
 | zero=>omega
 | succ b d=>
  have g:=zJ (b:=b) (by omega);have e:0<2^m4 b:=ai _;rcases dj a b with c|c
  .have:=d c (by omega);omega
  .have:a=b:=by omega
   subst this;omega
theorem aAH{a b:Nat}(h:a<=b)(d:b<=9218868437227405312):iJ a<=iJ b:=by
 rcases dj a b with c|c
 .exact fk (aFr c d)
 .have:a=b:=by omega
  subst this;exact H _
theorem aGo{N D a b:Nat}(g:a<=9218868437227405311)(k:b<=9218868437227405311)(i:iJ a*D<=N)(d:a=9218868437227405311\/N<iJ (a+1)*D)(j:iJ b*D<=N)(e:b=9218868437227405311\/N<iJ (b+1)*D):a=b:=by
 rcases ei a b with h|h|h
 .have f:=d.resolve_left (by omega);have c:iJ (a+1)*D<=iJ b*D:=ac _ (aAH (by omega) (by omega));omega
 .exact h
 .have f:=e.resolve_left (by omega);have c:iJ (b+1)*D<=iJ a*D:=ac _ (aAH (by omega) (by omega));omega
theorem aKA{K j:Nat}(g:K<=2045)(i:j<9007199254740992)(h:K=0\/4503599627370496<=j):iJ (K*4503599627370496+j)=j*2^K/\m4 (K*4503599627370496+j)=K:=by
 unfold iJ fL m4
 by_cases d:j<4503599627370496
 .have f:K=0:=h.resolve_right (by omega);subst f;obtain⟨c,b⟩:=vS (C:=4503599627370496) (e:=0) d;rw[c,b];simp
 .have a:=vS (C:=4503599627370496) (e:=K+1) (m:=j-4503599627370496) (by omega);rw[show(K+1)*4503599627370496+(j-4503599627370496)=K*4503599627370496+j by omega]at a;obtain⟨c,b⟩:=a;rw[c,b,bk (show K+1<2048 by omega),if_neg (by omega),di,Nat.sub_add_cancel (by omega)];exact⟨rfl,rfl⟩
theorem aAI{X Y p q p' q':Nat}(h:p+q'=p'+q):X*2^p<=Y*2^q<->X*2^p'<=Y*2^q':=by
 have a:X*2^p<=Y*2^q<->X*2^p*2^q'<=Y*2^q*2^q':=(fm (ai _)).symm;have b:X*2^p'<=Y*2^q'<->X*2^p'*2^q<=Y*2^q'*2^q:=(fm (ai _)).symm;rw[a,b,ao,ao,ao,ao,<-R,<-R,<-R,<-R,h,fj q q']
theorem aIk{X Y p q p' q':Nat}(h:p+q'=p'+q):X*2^p<Y*2^q<->X*2^p'<Y*2^q':=by
 have:=aAI (X:=Y) (Y:=X) (p:=q) (q:=p) (p':=q') (q':=p') (by omega);rw[<-fq,<-fq,this]
theorem aKB{X Y p q p' q':Nat}(h:p+q'=p'+q):X*2^p=Y*2^q<->X*2^p'=Y*2^q':=by
 have b:=aAI (X:=X) (Y:=Y) h;have a:=aAI (X:=Y) (Y:=X) (p:=q) (q:=p) (p':=q') (q':=p') (by omega);constructor
 .intro e;exact ft (b.1 (cg e)) (a.1 (cg e.symm))
 .intro e;exact ft (b.2 (cg e)) (a.2 (cg e.symm))
def gF(a b:Nat):Int:=if a<b then -1 else if a=b then 0 else 1
theorem vT{X Y p q p' q':Nat}(h:p+q'=p'+q):gF (X*2^p) (Y*2^q)=gF (X*2^p') (Y*2^q'):=by
 unfold gF;simp only[aIk h,aKB h]
structure aKo(num den:Nat)(bits:Nat)(half:Int):Prop where
 low:iJ bits*den<=num*2^1074
 high:num*2^1074<iJ (bits+1)*den
 half:gF (num*2^1075) ((2*fL bits+1)*2^m4 bits*den)=half
theorem aJS{h f q d a b:Nat}{n:Int}(hab:(a:Int)-b=n)(W:h*2^a=q*(f*2^b)+d)(hl:d<f*2^b)(hq:18014398509481984<=q):
 (j4 q d n=⟨aJ,1,Q⟩/\(∃K i,aJ<K*4503599627370496+i/\4503599627370496<=i/\i<9007199254740992/\i*2^K*f<=h*2^1074))\/
  ((j4 q d n).bits<=aJ/\aKo h f (j4 q d n).bits (j4 q d n).half/\(0<=(j4 q d n).half->(j4 q d n).exact=Q)):=by
 have hbl:54<aj q:=ej.2 hq;obtain⟨k,hk⟩:∃k:Int,max ((aj q:Int)-53-n) (-1074)=k:=⟨_,rfl⟩;obtain⟨K,hK⟩:∃K:Nat,(k+1074).toNat=K:=⟨_,rfl⟩;obtain⟨j,hj⟩:∃j:Nat,(k+n).toNat=j+1:=⟨(k+n).toNat-1,by omega⟩;have hKi:(K:Int)=k+1074:=by omega
 have hji:((j+1:Nat):Int)=k+n:=by omega
 obtain⟨i,x⟩:∃i,q/2^(j+1)=i:=⟨_,rfl⟩
 have y:i*2^(j+1)<=q/\q<(i+1)*2^(j+1):=by
  rw[<-x];exact⟨Nat.div_mul_le_self _ _,by have:=Nat.lt_div_mul_add (a:=q) (ai (j+1));rw[bc,bp];exact this⟩
 have t:i<9007199254740992:=by
  rw[<-x,fu (ai _)]
  show q<2^53*2^(j+1)
  rw[<-R];exact ek.1 (by omega)
 have z:K=0\/4503599627370496<=i:=by
  by_cases N:K=0
  .exact bg N
  .refine az ?_;rw[<-x,fv (ai _)]
   show 2^52*2^(j+1)<=q
   rw[<-R];exact ej.1 (by omega)
 have hexp:(j+1)+b+1074=K+a:=by omega
 have hD:0<f*2^b:=by omega
 have u:=(show ∀e,e=1074->i*2^K*f<=h*2^e from λe he=>by
  have p:i*2^(j+1)*(f*2^b)<=h*2^a:=by
   rw[W];exact bw (ac _ y.1) (Nat.le_add_right _ _)
  rw[em,<-R]at p;rw[cj];exact(aAI (by omega)).1 p) 1074 rfl
 have o:=(show ∀e,e=1074->h*2^e<(i+1)*2^K*f from λe he=>by
  have p:h*2^a<(i+1)*2^(j+1)*(f*2^b):=by
   rw[W];have:(q+1)*(f*2^b)<=(i+1)*2^(j+1)*(f*2^b):=ac _ y.2;rw[bc,bp]at this;omega
  rw[em,<-R]at p;rw[cj];exact(aIk (by omega)).1 p) 1074 rfl
 have l:j4 q d n=if aJ<K*4503599627370496+i then⟨aJ,1,Q⟩else⟨K*4503599627370496+i,if q/2^j%2=1 then(if q%2^j≠0\/d≠0 then 1 else 0)else -1, !(decide (q%2^(j+1)≠0)||decide (d≠0))⟩:=by
  unfold j4;simp only[hk,hK,hj,x,di]
 by_cases g:aJ<K*4503599627370496+i
 .rw[if_pos g]at l;refine bg ⟨l,K,i,g,z.resolve_left (λm=>?_),t,u⟩;subst m;unfold aJ at g;omega
 .rw[if_neg g]at l;rw[l];refine az ⟨by simp only;omega,?_,?_⟩
  .simp only;have X:K<=2045:=by unfold aJ at g;omega
   obtain⟨B,Y⟩:=aKA X t z;refine⟨by rw[B];exact u,?_,?_⟩
   .rw[zJ (by unfold aJ at g;omega),B,Y];rw[bc,bp]at o;exact o
   .have f3:fL (K*4503599627370496+i)=i:=by
     unfold iJ at B;rw[Y]at B;exact Nat.eq_of_mul_eq_mul_right (ai _) B
    rw[Y,f3]
    have C:q/2^j=2*i+q/2^j%2:=by
     have:q/2^j/2=i:=by rw[eo,<-bm];exact x
     omega
    have m:=eh q (2^j);have F:=ee q (ai j)
    have hs:=(show ∀e,e=1075->gF (h*2^e) ((2*i+1)*2^K*f)=gF (h*2^a) ((2*i+1)*f*2^(j+b))from λe he=>by
     rw[cj (2*i+1)];exact vT (by omega)) 1075 rfl
    rw[hs,show(2*i+1)*f*2^(j+b)=(2*i+1)*2^j*(f*2^b) by rw[R,em],W];generalize f*2^b=D at hl hD;generalize 2^j=S at C m F;generalize q/S=s at C m;generalize q%S=r at m F;subst m;unfold gF;rcases fw s with N|p
    .have v:s=2*i:=by omega
     have h3:(S*s+r+1)*D<=(2*i+1)*S*D:=by
      refine ac _ ?_;rw[v,bc,bp,bz S];omega
     rw[bc,bp]at h3;rw[if_pos (by omega),if_neg (by omega)]
    .rw[if_pos p];have v:s=2*i+1:=by omega
     have h3:(S*s+r)*D=(2*i+1)*S*D+r*D:=by rw[v,bc,bz S]
     rw[h3,if_neg (by omega)]
     by_cases w:r≠0\/d≠0
     .rw[if_pos w,if_neg]
      have:0<r*D+d:=by
       rcases w with w|w
       .have:=bs (Nat.pos_of_ne_zero w) hD;omega
       .omega
      omega
     .rw[if_neg w,if_pos];have hr0:r=0:=by omega
      subst hr0;omega
  .simp only;intro m
   by_cases p:q/2^j%2=1
   .have:q%2^(j+1)≠0:=by
     intro N;have v:2^(j+1)∣q:=Nat.dvd_of_mod_eq_zero N;obtain⟨c,w⟩:=v;rw[w,bm,ao,Nat.mul_div_cancel_left _ (ai j)]at p;omega
    simp[this]
   .rw[if_neg p]at m;omega
abbrev encI(x:Nat):ah:=O U (x:Int)
def Fgs(w:Z)(v:ah)(l:List Nat):Prop:=Row 0 3 encI w v l
theorem aBW:Elem 50 3 8:=⟨fz,by
 have h:(E.info? 3).map (λi=>(i.zero,i.size,i.bytes))=V (V (O U 0),1,8):=by kernel_rfl
 obtain⟨i,c,a,d,b⟩:=du h;exact⟨i,_,c,a,d,b,rfl⟩⟩
theorem aKC:aHv 50 3 8 (encI 0):=⟨fz,by
 have h:(E.info? 3).map (λi=>(i.zero,i.size,i.bytes))=V (V (O U 0),1,8):=by kernel_rfl
 obtain⟨i,c,a,d,b⟩:=du h;exact⟨i,c,a,d,b,rfl⟩⟩
theorem Fgs.A5{w w':Z}{v:ah}{l:List Nat}(h:Fgs w v l)(a:af w.heap.size w w'):Fgs w' v l:=Row.A5 h a
theorem Fgs.A4{w:Z}{v:ah}{l:List Nat}(h:Fgs w v l)(o:Obj):Fgs (w.alloc o) v l:=Row.A4 h o
theorem Fgs.A9{w:Z}{v:ah}{l:List Nat}(h:Fgs w v l):Fgs w.drew v l:=h
theorem Fgs.D6{w:Z}{v:ah}{l:List Nat}(h:Fgs w v l){b:Nat}{c:Array ah}{e:TypeId}(d:w.heap[b]?=V (A c e (0,0)))(a:e≠3)(o:Nat)(u:ah):Fgs (w.setCell ⟨b,o,I⟩ u) v l:=Row.D6 h d a o u
theorem Fgs.E3{w:Z}{v:ah}{l:List Nat}(h:Fgs w v l):(v=J I 0 0/\l= [])\/
 ∃g cap,v=J (V ⟨g,0,I⟩) l.length cap/\g<w.heap.size/\l.length<=cap/\cap<=bj/\∀i,i<l.length->w.cell? ⟨g,i,I⟩=V (O U (l.getD i 0:Nat)):=by
 rcases Row.E3 h with h|⟨g,cap,c,_,d,e,b,_,a⟩
 .exact bg h
 .exact az ⟨g,cap,c,d,e,b,λi hi=>a i _ (by rw[ep,List.getElem?_eq_getElem hi];rfl)⟩
def pI(w:Z)(n:Nat)(e:Ending)(w':Z):Prop:=∃a k c,e=ae (ak #[J a k c])/\Fgs w' (J a k c) (G n)/\af w.heap.size w w'
theorem aGp(B:Nat)(v:ah)(l:List Nat)(w:Z)(D:ga l)(h:Row B 3 encI w v l):T E 199 #[v] w λe w'=>
 ∃a k c,e=ae (ak #[J a k c])/\Row B 3 encI w' (J a k c) (G (dl l))/\af w.heap.size w w':=by
 rcases Fgs.E3 (h.I3 (cr _))with⟨rfl,rfl⟩|⟨g,cap,rfl,y,N,K,b⟩
 .go_enter func199,ntmps199;go_wp2;refine wp_loop_rounds 1 ?_;rw[rounds_succ];go_wp2;refine ar (v:=ak #[J I 0 0]) (by simp[au,et,go_sem]) rfl ⟨_,_,_,rfl,?_,?_⟩
  .simp only[dl,gc];exact gd _ _ _ _
  .exact(P _ _).alloc (H _) _
 .have r:l.length<=9223372036854775807:=by unfold bj at K;omega
  go_enter func199,ntmps199;go_wp2
  go_loop [3] (λn=>∃k:Nat,k<=l.length/\n=O U k/\∀i,k<=i->l.getD i 0=0) (λn=>(av n).toNat)
  case atStart=>exact⟨l.length,H _,rfl,λi hi=>by simp[ep,ge hi]⟩
  case round=>
   obtain⟨k,o,rfl,s⟩:=hrel;have t:=L s;clear s
   have d:∀m,m<=l.length->m=k->(k=0\/l.getD (k-1) 0≠0)->Row B 3 encI w (J (V ⟨g,0,I⟩) m cap) (G (dl l)):=by
    intro m z e C;subst e;rw[Fig.figs_take D o t.o C];exact h.B0 o
   have j:=L d;clear d
   by_cases p:k=0
   .subst p;simp only[gh]at*;go_wp2;refine ar (v:=ak #[J (V ⟨g,0,I⟩) 0 cap]) (by simp[au,et,go_sem]) rfl ⟨_,_,_,rfl,?_,?_⟩
    .exact(j.o 0 (by omega) rfl (by simp)).A5 ((P _ _).alloc (H _) _)
    .exact(P _ _).alloc (H _) _
   .have u:(w.alloc (A #[J I 0 0] 324)).cell? ⟨g,k-1,I⟩=V (O U (l.getD (k-1) 0:Nat)):=by
     rw[gj _ _ ⟨g,k-1,I⟩ (by simpa using y)];exact b _ (by omega)
    generalize F:l.getD (k-1) 0=x at*
    by_cases f:x=0
    .subst f;go_wp2
     refine ⟨⟨k - 1, by omega, by have : ((k - 1 : Nat) : Int) = (k : Int) - 1 := by omega
                                  rw[this],λi hi=>?_⟩,by simp[av];omega⟩
     by_cases q:i=k-1
     .subst q;exact F
     .exact t.o i (by omega)
    .go_wp2;refine ar (v:=ak #[J (V ⟨g,0,I⟩) k cap]) (by simp[au,et,go_sem]) rfl ⟨_,_,_,rfl,?_,?_⟩
     .exact(j.o k o rfl (az f)).A5 ((P _ _).alloc (H _) _)
     .exact(P _ _).alloc (H _) _
theorem aBX(v:ah)(l:List Nat)(w:Z)(a:ga l)(h:Fgs w v l):T E 199 #[v] w λe w'=>pI w (dl l) e w':=aGp 0 v l w a h
theorem aGq(a:Option bh)(k c:Nat)(l:List Nat)(i:Nat)(w:Z)(h:Fgs w (J a k c) l):T E 201 #[ak #[J a k c],O U i] w λe w'=>e=ae (O U (l.getD i 0:Nat))/\af w.heap.size w w':=by
 rcases h.E3 with⟨n,rfl⟩|⟨g,cap,n,p,s,r,b⟩
 .injection n with j d m
  subst j d m;have hi:¬(i:Int)<0:=by omega
  go_enter eu,ev;go_wp2_with fail;go_ret;exact⟨by simp,(P _ _).alloc (H _) _⟩
 .injection n with j d m
  subst j d m
  by_cases hi:i<l.length
  .have f:(i:Int)<(l.length:Int):=by omega
   have o:(w.alloc (A #[J (V ⟨g,0,I⟩) l.length c] 324)).cell? ⟨g,i,I⟩=V (O U (l.getD i 0:Nat)):=by
    rw[gj _ _ ⟨g,i,I⟩ (by simpa using p)];exact b _ hi
   generalize l.getD i 0=x at*;clear b;go_enter eu,ev;go_wp2_with fail;go_ret;exact⟨rfl,(P _ _).alloc (H _) _⟩
  .have f:¬(i:Int)<(l.length:Int):=by omega
   have q:l.getD i 0=0:=by simp[ep,ge (Nat.le_of_not_lt hi)]
   rw[q];clear b;go_enter eu,ev;go_wp2_with fail;go_ret;exact⟨rfl,(P _ _).alloc (H _) _⟩
theorem rC(x:Nat)(w:Z)(q:x<18446744073709551616):T E 183 #[O bu x] w λe w'=>pI w x e w':=by
 have d:(G x).length<=5:=gk (ct q (by decide));obtain⟨s,g⟩:∃s,G x=s:=⟨_,rfl⟩;rw[g]at d;have t:=L g;have l:=L d;clear g d;go_enter func183,ntmps183;go_wp2_with fail
 go_loopw [0,3] (λn f wr=>∃(m:Nat)(r:List Nat),n=O bu m/\m<18446744073709551616/\M (r++G m=s)/\Row (w.heap.size+1) 3 encI wr f r/\af (w.heap.size+1) (w.alloc (A #[J I 0 0] 324)) wr) (λn _ _=>(av n).toNat)
 case atStart=>exact⟨x,[],rfl,q,L (by rw[t.o];rfl),gd _ _ _ _,P _ _⟩
 case round=>
  obtain⟨m,r,rfl,B,i,d,g⟩:=hrel;have y:w.heap.size+1<=wr.heap.size:=by simpa using g.size
  rcases dm m with rfl|C
  .have p:r=s:=by have:=i.o;rwa[gc,List.append_nil]at this
   subst p;have h:wr.heap[w.heap.size]?=V (A #[J I 0 0] 324 (0,0)):=(g.block _ (by omega)).trans (co w _);have j:af w.heap.size w wr:=((P _ _).alloc (H _) _).trans (g.mono (by omega));obtain⟨a,c,rfl⟩:=d.A8;have o:=ew h;have u:=free_of_one h;have z:=L d;clear d i;simp only[gh];go_wp2;refine ar (v:=ak #[J a r.length c]) (by simp[au,results183,go_sem,o]) rfl ⟨a,_,c,rfl,?_,j.setCell (H _) _⟩;rw[t.o];exact(z.o.I3 (cr _)).D6 h (by decide) _ _
  .have h:=Fig.figs_pos (n:=m) (by omega);have j:=i.o;rw[h]at j;have u:r.length+1<=5:=by have:=congrArg List.length j;simp at this;have:=l.o;omega
   have o:=L (show(r++ [m%10000])++G (m/10000)=s by rw[<-j];simp);have D:U.wrap ((m:Int)%10000)=((m%10000:Nat):Int):=by rw[bx];omega
   have F:m/10000<m:=by omega
   clear j h i
   go_wp2_with (at_builtin;refine cQ aBW rfl _ _ rfl rfl (d.A4 _) ⟨wr.heap.size,0,I⟩ 1 (m%10000) rfl ?_ rfl ?_ ?_ ?_ ?_)
   .simp
   .omega
   .unfold bj;omega
   .simp;omega
   intro b cap K i h;have j:=(g.alloc (by omega) (A #[O U ((m%10000:Nat):Int)] 3)).grown h (by simp;omega) (λk z=>by have:=d.lt k z;omega);have p:=L i;clear i h d;go_wp2
   go_roundw
   case rel=>exact⟨m/10000,r++ [m%10000],by go_num,by omega,o,p.o,j⟩
   case measure=>simp[av];omega
theorem aIl{n m k:Nat}(h:n/10000^(k+1)=m/10000^(k+1)):
 (n/10000^k%10000<m/10000^k%10000->n<m)/\(m/10000^k%10000<n/10000^k%10000->m<n)/\
 (n/10000^k%10000=m/10000^k%10000->n/10000^k=m/10000^k):=by
 rw[bm,<-eo,<-eo]at h;have a1:m<=n->m/10000^k<=n/10000^k:=λh=>gl h
 have a2:n<=m->n/10000^k<=m/10000^k:=λh=>gl h
 generalize n/10000^k=N at*;generalize m/10000^k=c at*;refine⟨λb=>?_,λb=>?_,λb=>by omega⟩
 .rcases dj n m with a|a
  .exact a
  .have:=a1 a;omega
 .rcases dj m n with a|a
  .exact a
  .have:=a2 a;omega
theorem rD{n m:Nat}(h:(G n).length<(G m).length):n<m:=by
 refine Nat.lt_of_not_le λa=>?_
 have b:=gk (gm a (ez (H _)));omega
theorem vU(a r:Option bh)(k X c t n m:Nat)(w:Z)(W:Fgs w (J a k c) (G n))(u:Fgs w (J r X t) (G m)):
 T E 187 #[ak #[J a k c],ak #[J r X t]] w λe w'=>e=ae (O U (gF n m))/\af w.heap.size w w':=by
 obtain⟨va,vc,l⟩:=gn W;injection l with d f B
 subst d f B;obtain⟨va',vc',l⟩:=gn u;injection l with d f B
 subst d f B;have o:af w.heap.size w ((w.alloc (A #[J a (G n).length c] 324)).alloc (A #[J r (G m).length t] 324)):=((P _ _).alloc (H _) _).alloc (by simp) _;rcases ei (G n).length (G m).length with F|p|K
 .have N:gF n m= -1:=by have:=rD F;unfold gF;rw[if_pos this]
  rw[N];generalize (G n).length=q at*;generalize (G m).length=s at*;have b1:((q:Int)!=(s:Int))=ag:=by simp;omega
  have b3:(q:Int)<(s:Int):=by omega
  clear W u;go_enter fa,fc;go_wp2_with fail;go_ret;exact⟨rfl,o⟩
 .have D:n/10000^(G n).length=m/10000^(G n).length:=by
   rw[dy (ez (H _)),dy (ez (by omega))]
  have Y:∀C,af w.heap.size w C->∀i,i<(G n).length->∃g v,a=V ⟨g,0,I⟩/\r=V ⟨v,0,I⟩/\C.cell? ⟨g,i,I⟩=V (O U ((n/10000^i%10000:Nat):Int))/\C.cell? ⟨v,i,I⟩=V (O U ((m/10000^i%10000:Nat):Int)):=by
   intro C S i hi;rcases(W.A5 S).E3 with⟨_,l⟩|⟨g,cap,l,_,_,_,hc⟩
   .rw[l]at hi;simp at hi
   .rcases(u.A5 S).E3 with⟨_,b⟩|⟨v,cap',b,_,_,_,h⟩
    .rw[p,b]at hi;simp at hi
    .injection l with d f B
     injection b with z h2' h3'
     exact⟨g,v,d,z,by rw[hc i hi,go],by rw[h i (p▸hi),go]⟩
  have HX:=L Y;have HZ:=L D
  have S:(G n).length<=bj:=by
   rcases W.E3 with⟨_,l⟩|⟨g,cap,_,_,d,f,_⟩
   .rw[l];simp
   .omega
  clear W u Y D;generalize (G m).length=s at*;subst p;generalize (G n).length=q at*;unfold bj at S
  have e0:U.wrap ((q:Int)-1)=(q:Int)-1:=by rw[bx];omega
  go_enter fa,fc;go_wp2_with fail
  go_loopw [5] (λi wr=>∃(k:Nat),k<=q/\i=O U ((k:Int)-1)/\M (n/10000^k=m/10000^k)/\af w.heap.size w wr/\wr.heap[w.heap.size]?=V (A #[J a q c] 324 (0,0))/\wr.heap[w.heap.size+1]?=V (A #[J r q t] 324 (0,0))) (λi _=>(av i+1).toNat)
  case atStart=>exact⟨q,H _,rfl,HZ,o,(fe _ _ _ (by simp)).trans (co w _),by simpa using co (w.alloc (A #[J a q c] 324)) (A #[J r q t] 324)⟩
  case round=>
   obtain⟨k,hk,rfl,D,b,g1,Y⟩:=hrel;have k1:=ew g1;have k2:=ew Y;rcases dm k with rfl|hkp
   .have d:gF n m=0:=by have:=D.o;simp at this;subst this;simp[gF]
    have z:=L d;clear d D;go_wp2_with fail;go_ret;rw[z.o];exact⟨rfl,b⟩
   .obtain⟨j,rfl⟩:∃j,k=j+1:=⟨k-1,by omega⟩;have e1:((j+1:Nat):Int)-1=(j:Int):=by omega
    rw[e1];obtain⟨g,v,rfl,rfl,hc1,hc2⟩:=HX.o _ b j (by omega);have f:=aIl D.o;have hjl:(j:Int)<(q:Int):=by omega
    have e2:U.wrap ((j:Int)-1)=(j:Int)-1:=by rw[bx];omega
    generalize n/10000^j%10000=x at*;generalize m/10000^j%10000=y at*;have h:=L f;clear f D e1;rcases ei x y with f|f|f
    .have d:gF n m= -1:=by unfold gF;rw[if_pos (h.o.1 f)]
     have z:=L d;have D:(x:Int)<(y:Int):=by omega
     clear d;go_wp2_with fail
     go_quiet (fail)
     go_wp2_with fail;go_ret;rw[z.o];exact⟨rfl,dp b _⟩
    .subst f;have HE:=L (h.o.2.2 rfl);have D:¬(x:Int)<(x:Int):=by omega
     clear h;go_wp2_with fail
     go_quiet (fail)
     go_wp2_with fail
     go_quiet (fail)
     go_wp2_with fail
     go_roundw
     case rel=>exact⟨j,by omega,rfl,HE,dp b _,g1,Y⟩
     case measure=>simp[av]
    .have d:gF n m=1:=by unfold gF;rw[if_neg (by have:=h.o.2.1 f;omega),if_neg (by have:=h.o.2.1 f;omega)]
     have z:=L d;have D:¬(x:Int)<(y:Int):=by omega
     have q2:(y:Int)<(x:Int):=by omega
     clear d;go_wp2_with fail
     go_quiet (fail)
     go_wp2_with fail
     go_quiet (fail)
     go_wp2_with fail;go_ret;rw[z.o];exact⟨rfl,dp (dp b _) _⟩
 .have N:gF n m=1:=by have:=rD K;unfold gF;rw[if_neg (by omega),if_neg (by omega)]
  rw[N];generalize (G n).length=q at*;generalize (G m).length=s at*;have b1:((q:Int)!=(s:Int))=ag:=by simp;omega
  have b3:¬(q:Int)<(s:Int):=by omega
  clear W u;go_enter fa,fc;go_wp2_with fail;go_ret;exact⟨rfl,o⟩
section
theorem aJ5{c d:Nat}(m:0<c)(g:0<d):18014398509481984<=c*2^(mZ c d).toNat/(d*2^(-mZ c d).toNat):=by
 have l:0<aj c:=by
  rcases dm (aj c)with h|h
  .have:=ek.1 (cg h);simp at this;omega
  .exact h
 have j:2^(aj c-1)<=c:=ej.1 (by omega);have i:d<2^aj d:=ek.1 (H _);obtain⟨a,e⟩:∃a,(mZ c d).toNat=a:=⟨_,rfl⟩;obtain⟨b,f⟩:∃b,(-mZ c d).toNat=b:=⟨_,rfl⟩;have k:(a:Int)-b=66-((aj c:Int)-aj d):=by rw[<-e,<-f];unfold mZ;omega
 rw[e,f,fv (bs g (ai _))]
 show 2^54*(d*2^b)<=c*2^a
 calc 2^54*(d*2^b)<=2^54*(2^aj d*2^b):=gp _ (ac _ (fk i))
  _=2^(54+(aj d+b)):=by rw[<-R,<-R]
  _<=2^(aj c-1+a):=dq (by decide) (by omega)
  _=2^(aj c-1)*2^a:=R ..
  _<=c*2^a:=ac _ j
theorem aIO(a b:Nat):bF a b=j4 (a*2^(mZ a b).toNat/(b*2^(-mZ a b).toNat)) (a*2^(mZ a b).toNat%(b*2^(-mZ a b).toNat)) (mZ a b):=rfl
def aFz(a b:Nat)(c:Cut):Prop:=
 (c=⟨aJ,1,Q⟩/\(∃K d,aJ<K*4503599627370496+d/\4503599627370496<=d/\d<9007199254740992/\d*2^K*b<=a*2^1074))\/
  (c.bits<=aJ/\aKo a b c.bits c.half/\(0<=c.half->c.exact=Q))
theorem aD4{d c a b:Nat}{e:Int}(f:mZ d c=e)(j:e.toNat=a)(l:(-e).toNat=b)(m:0<d)(h:0<c):aFz d c (j4 (d*2^a/(c*2^b)) (d*2^a%(c*2^b)) e):=by
 have i:=aJ5 m h;rw[f,j,l]at i;have k:0<c*2^b:=bs h (ai _);have g:(a:Int)-b=e:=by omega
 exact aJS g (Nat.div_add_mod' _ _).symm (ee _ k) i
theorem aGK{a b:Nat}(d:0<a)(c:0<b):aFz a b (bF a b):=by
 rw[aIO];exact aD4 rfl rfl rfl d c
def numOf(d:Dml):Nat:=bM (bD d.digits)*10^(dX d.digits d.exp).toNat
def fF(d:Dml):Nat:=10^(-dX d.digits d.exp).toNat
def fG(d:Dml):Int:=d.digits.length+d.exp
def aV(d:Dml)(m:Nat)(k:Int):Int:=
 if d.digits= []\/m=0 then(if d.digits≠ []then 1 else if 0<m then -1 else 0)
 else if 320<fG d then 1
 else if fG d< -340 then -1
 else gF (numOf d*2^(-k).toNat) (m*fF d*2^k.toNat)
def fV(f:Nat):Int:=(m4 f:Int)-1074
structure mT(d:Dml)(f:Nat):Prop where
 le:f<=aJ
 low:0<=aV d (fL f) (fV f)
 high:f=aJ\/aV d (fL (f+1)) (fV (f+1))<0
def kY(d:Dml)(f:Nat):Int:=aV d (2*fL f+1) (fV f-1)
def pT(d:Dml)(f:Nat):Nat:=if 0<kY d f\/(kY d f=0/\f%2=1)then f+1 else f
def f9(d:Dml)(f:Nat):Option Nat:=if aJ<pT d f then I else V (if d.neg=ag/\0<pT d f then pT d f+9223372036854775808 else pT d f)
structure gA(d:Dml):Prop where
 dig:∀c∈d.digits,isD c=ag
 first:∀c t,d.digits=c::t->c≠48
theorem sV{b:Nat}(e:b<=9218868437227405312)(h:fL b=0):b=0:=by
 unfold fL at h;split at h
 .rename_i a;have d:=eh b 4503599627370496;have c:b/4503599627370496<2048:=by rw[fu (by decide)];omega
  rw[bk c]at a;rw[a,h]at d;omega
 .omega
theorem kZ{d:Dml}(b:d.digits≠ [])(e:fG d<=320)(c: -340<=fG d){m:Nat}(a:m≠0)(S:Nat)(k:Int){K:Nat}(f:(K:Int)=k+S):aV d m k=gF (numOf d*2^S) (m*2^K*fF d):=by
 unfold aV;rw[if_neg (by simp[b,a]),if_neg (by omega),if_neg (by omega),cj m (2^K)];exact vT (p:=(-k).toNat) (q:=k.toNat) (p':=S) (q':=K) (by omega)
theorem aCq{a b:Nat}:0<=gF a b<->b<=a:=by unfold gF;split<;>(try split)<;>omega
theorem aIP{a b:Nat}:gF a b<0<->a<b:=by unfold gF;split<;>(try split)<;>omega
theorem aIQ{a b:Nat}(h:b<a):gF a b=1:=by unfold gF;rw[if_neg (by omega),if_neg (by omega)]
theorem aGL{a b:Nat}(h:a<b):gF a b= -1:=by unfold gF;rw[if_pos h]
section
variable {d:Dml} {f:Nat}
theorem mT.O0(h:mT d f)(j:d.digits≠ [])(i:fG d<=320)(c: -340<=fG d):iJ f*fF d<=numOf d*2^1074/\(f=aJ\/numOf d*2^1074<iJ (f+1)*fF d):=by
 have b:=h.le;constructor
 .by_cases a:fL f=0
  .unfold iJ;rw[a,gq,gq];exact cr _
  .have:=h.low;rw[kZ j i c a 1074 _ (K:=m4 f) (by unfold fV;omega)]at this;exact aCq.1 this
 .refine h.high.imp id λg=>?_
  have a:fL (f+1)≠0:=λe=>by have:=sV (by unfold aJ at b;omega) e;omega
  rw[kZ j i c a 1074 _ (K:=m4 (f+1)) (by unfold fV;omega)]at g;exact aIP.1 g
theorem nY(c:d.digits≠ [])(b:fG d<=320)(a: -340<=fG d):kY d f=gF (numOf d*2^1075) ((2*fL f+1)*2^m4 f*fF d):=by
 unfold kY;exact kZ c b a (by omega) 1075 _ (by unfold fV;omega)
theorem aFA(d:Dml):0<fF d:=ck (by decide)
theorem aIR:iJ 9218868437227405312=4503599627370496*2^2046:=by
 have a:fL 9218868437227405312=4503599627370496/\m4 9218868437227405312=2046:=by
  unfold fL m4;constructor<;>decide
 unfold iJ;rw[a.1,a.2]
theorem aCr:fL aJ=9007199254740991/\m4 aJ=2045:=by
 unfold fL m4 aJ;constructor<;>decide
theorem aKV{K e F f:Nat}(b:Nat)(c:b<=K)(d:4503599627370496<=e)(a:e*2^K*F<=f):4503599627370496*2^b*F<=f:=
 bw (ac _ (Nat.mul_le_mul d (dq (by decide) c))) a
theorem dbl{N:Nat}(a b:Nat)(h:b=a+1):N*2^b=2*(N*2^a):=by
 subst h;rw[bm,<-ao,bz]
theorem aJ6{F N:Nat}(c:0<F):∀a a1 b b1:Nat,a1=a+1->b1=b+1->4503599627370496*2^a1*F<=N*2^b->(2*9007199254740991+1)*2^a*F<N*2^b1:=by
 rintro a _ b _ rfl rfl h;rw[bm]at h⊢;have d:0<2^a*F:=bs (ai _) c;generalize 2^a=x at*;generalize 2^b=y at*;rw[bz x 2,<-ao,ao]at h;rw[ao,<-ao N];generalize x*F=u at*;generalize N*y=v at*;omega
theorem aKW{F N B:Nat}(a b e:Nat)(c:52+b=a+e)(h:2^a<=B)(d:B*F<=N):4503599627370496*2^b*F<=N*2^e:=by
 rw[show 4503599627370496=2^52 from rfl,<-R,c,R,cj];exact ac _ (bw (ac _ h) d)
theorem mT.R7(h:mT d f)(g:d.digits≠ [])(e:fG d<=320)(c: -340<=fG d)(n:4503599627370496*2^2046*fF d<=numOf d*2^1074):f9 d f=I:=by
 obtain⟨_,b⟩:=h.O0 g e c
 have i:f=aJ:=by
  refine b.resolve_right λj=>?_
  have a:=h.le;have m:iJ (f+1)*fF d<=iJ 9218868437227405312*fF d:=ac _ (aAH (by unfold aJ at a;omega) (H _));rw[aIR]at m;omega
 subst i
 have k:kY d aJ=1:=by
  rw[nY g e c,aCr.1,aCr.2];exact aIQ (aJ6 (aFA d) 2045 2046 1074 1075 rfl rfl n)
 have l:pT d aJ=aJ+1:=by unfold pT;rw[k,if_pos (bg (by decide))]
 unfold f9;rw[l,if_pos (by omega)]
theorem aCs(e:d.digits≠ [])(c:fG d<=310)(b: -330<=fG d):bP d=bF (numOf d) (fF d):=by
 unfold bP;unfold fG at c b;rw[if_neg e,if_neg (by omega),if_neg (by omega)];unfold numOf fF
 by_cases a:0<=dX d.digits d.exp
 .rw[if_pos a,show(-dX d.digits d.exp).toNat=0 by omega,gr]
 .rw[if_neg a,show(dX d.digits d.exp).toNat=0 by omega,gr,Nat.mul_one]
theorem aJ7{c:Cut}(a:0<=c.half->c.exact=Q)(b:c.half= -1\/c.half=0\/c.half=1):b8 c=if 0<c.half\/(c.half=0/\c.bits%2=1)then c.bits+1 else c.bits:=by
 unfold b8;rcases b with h|h|h
 .rw[if_neg (by omega),if_neg (by omega),if_neg (by omega)]
 .rcases fw c.bits with e|e
  .rw[if_pos ⟨h,e⟩,if_neg (by omega)]
  .rw[if_neg (by omega),if_pos ⟨by omega,a (by omega)⟩,if_pos (by omega)]
 .rw[if_neg (by omega),if_pos ⟨by omega,a (by omega)⟩,if_pos (by omega)]
theorem aD5(a b:Nat):gF a b= -1\/gF a b=0\/gF a b=1:=by unfold gF;split<;>(try split)<;>omega
end
end
section
theorem aGM(c:UInt8)(t:List UInt8):bM (c::t)=(c.toNat-48)*10^t.length+bM t:=by
 have:=jJ [c] t
 simpa[bM]using this
theorem kB{c:UInt8}(h:isD c=ag):48<=c.toNat/\c.toNat<=57:=by unfold isD at h;simpa using h
theorem wL(a:List UInt8)(e:Int):((bD a).length:Int)+dX a e=a.length+e:=by
 unfold bD dX
 by_cases h:800<a.length
 .rw[if_pos h,if_pos h,List.length_append,List.length_take,Nat.min_eq_left (by omega)];simp;omega
 .rw[if_neg h,if_neg h]
theorem aCt{a:List UInt8}(h:a≠ []):∃c t u,a=c::t/\bD a=c::u:=by
 cases a with
 | nil=>exact absurd rfl h
 | cons c t=>
  unfold bD;split
  .exact⟨c,t,_,rfl,rfl⟩
  .exact⟨c,t,_,rfl,rfl⟩
theorem aD6{b:List UInt8}(h:∀c∈b,isD c=ag):∀c∈bD b,c.toNat<=57:=by
 unfold bD;intro c a;split at a
 .rcases List.mem_append.1 a with a|a
  .exact(kB (h c (List.mem_of_mem_take a))).2
  .simp at a;subst a;decide
 .exact(kB (h c a)).2
section
variable {d:Dml} {f:Nat}
theorem gA.O1(a:gA d)(i:d.digits≠ []):∃m:Nat,(m:Int)+1+dX d.digits d.exp=fG d/\10^m<=bM (bD d.digits)/\bM (bD d.digits)<10^(m+1):=by
 obtain⟨c,t,u,f,j⟩:=aCt i;have g:=wL d.digits d.exp;have b:=aD6 a.dig;rw[j]at g b⊢;refine⟨u.length,?_,?_,?_⟩
 .unfold fG;rw[<-g,fi];omega
 .rw[aGM];have k:=kB (a.dig c (by rw[f];simp));have h:=a.first c t f;have l:c.toNat≠48:=λe=>h (gw e)
  have:1*10^u.length<=(c.toNat-48)*10^u.length:=ac _ (by omega);omega
 .exact j8 b
theorem aFB(c:gA d)(b:d.digits≠ []):0<numOf d:=by
 obtain⟨e,_,a,_⟩:=c.O1 b;unfold numOf;exact bs (ct (ck (by decide)) a) (ck (by decide))
theorem aGN(c:gA d)(b:d.digits≠ [])(g:310<fG d):∃B,2^1024<=B/\B*fF d<=numOf d:=by
 obtain⟨z,f⟩:∃z,z=310:=⟨_,rfl⟩;refine⟨10^z,by subst f;decide+kernel,?_⟩;obtain⟨h,e,a,_⟩:=c.O1 b;unfold numOf fF;refine bw ?_ (ac _ a);rw[<-R,<-R];exact dq (by decide) (by omega)
theorem aGO(f:gA d)(b:d.digits≠ [])(g:fG d< -330):numOf d*10^331<fF d:=
 (show ∀z,z=331->numOf d*10^z<fF d from λz h=>by
 obtain⟨i,e,_,c⟩:=f.O1 b;unfold numOf fF;have a:0<10^(dX d.digits d.exp).toNat*10^z:=bs (ck (by decide)) (ck (by decide));rw[ao];refine ct (Nat.mul_lt_mul_of_pos_right c a) ?_;rw[<-R,<-R];exact dq (by decide) (by omega)) 331 rfl
theorem yF:2^1075<=10^331:=by decide+kernel
theorem lV(a:f=0)(b:kY d f= -1):f9 d f=V 0:=by
 subst a;have c:pT d 0=0:=by unfold pT;rw[b,if_neg (by omega)]
 unfold f9;rw[c,if_neg (by omega),if_neg (by omega)]
theorem nZ:fL 0=0/\m4 0=0:=by constructor<;>decide
theorem aGP(q:gA d)(g:mT d f):f9 d f=cD d:=by
 by_cases a:d.digits= []
 .
  have b:bP d=⟨0,0,ag⟩:=by unfold bP;rw[if_pos a]
  have i:fL f=0:=by
   have:=g.low;unfold aV at this;rw[if_pos (bg a),if_neg (by simp[a])]at this;split at this<;>omega
  have e:f=0:=sV (by have:=g.le;unfold aJ at this;omega) i
  have r:kY d f= -1:=by
   unfold kY aV;rw[if_pos (bg a),if_neg (by simp[a]),if_pos (by omega)]
  rw[lV e r];unfold cD;rw[b];have:b8 ⟨0,0,ag⟩=0:=rfl;rw[this,if_neg (by omega),if_neg (by omega)]
 .by_cases j:310<fG d
  .have b:bP d=⟨aJ,1,Q⟩:=by
    unfold bP;unfold fG at j;rw[if_neg a,if_pos j]
   have l:cD d=I:=by
    unfold cD;rw[b];have:b8 ⟨aJ,1,Q⟩=aJ+1:=rfl;rw[this,if_pos (by omega)]
   rw[l]
   by_cases n:320<fG d
   .have h:∀m k,aV d m k=1:=by
     intro m k;unfold aV
     by_cases i:m=0
     .rw[if_pos (az i),if_pos a]
     .rw[if_neg (by simp[a,i]),if_pos n]
    have o:f=aJ:=by
     refine g.high.resolve_right ?_;rw[h];omega
    have p:pT d aJ=aJ+1:=by unfold pT kY;rw[h,if_pos (bg (by decide))]
    unfold f9;rw[o,p,if_pos (by omega)]
   .refine g.R7 a (by omega) (by omega) ?_;obtain⟨z,e,o⟩:=aGN q a j;have e:= @aKW (fF d) (numOf d) z 1024 2046 1074 rfl e o;exact e
  .by_cases n:fG d< -330
   .have b:bP d=⟨0,-1,Q⟩:=by
     unfold bP;unfold fG at j n;rw[if_neg a,if_neg j,if_pos n]
    have l:cD d=V 0:=by
     unfold cD;rw[b];have:b8 ⟨0,-1,Q⟩=0:=rfl;rw[this,if_neg (by omega),if_neg (by omega)]
    rw[l]
    by_cases o:fG d< -340
    .have h:∀m k,m≠0->aV d m k= -1:=by
      intro m k i;unfold aV;rw[if_neg (by simp[a,i]),if_neg (by omega),if_pos o]
     have e:f=0:=by
      have:=g.low
      by_cases i:fL f=0
      .exact sV (by have:=g.le;unfold aJ at this;omega) i
      .rw[h _ _ i]at this;omega
     exact lV e (h _ _ (by omega))
    .have p:=aGO q a n;have h:numOf d*2^1075<fF d:=gm (gp _ yF) p
     have e:f=0:=by
      obtain⟨i,_⟩:=g.O0 a (by omega) (by omega);rcases dm f with s|s
      .exact s
      .exfalso;have u:iJ 0<iJ f:=aFr s (by have:=g.le;unfold aJ at this;omega);have v:1*fF d<=iJ f*fF d:=ac _ (by omega);have t:numOf d*2^1075=2*(numOf d*2^1074):= @dbl (numOf d) 1074 1075 rfl;rw[t]at h;generalize numOf d*2^1074=w at*;omega
     refine lV e ?_;rw[nY a (by omega) (by omega),e,nZ.1,nZ.2];refine aGL ?_;rw[show(2*0+1)*2^0*fF d=fF d by simp];exact h
   .
    have b:=aCs a (by omega) (by omega);obtain⟨i,s⟩:=g.O0 a (by omega) (by omega);rcases aGK (aFB q a) (aFA d)with⟨h,K,y,o,t,w,x⟩|⟨p,h,v⟩
    .have l:cD d=I:=by
      unfold cD;rw[b,h];have:b8 ⟨aJ,1,Q⟩=aJ+1:=rfl;rw[this,if_pos (by omega)]
     have u:2046<=K:=by unfold aJ at o;omega
     have e:= @aKV K y (fF d) (numOf d*2^1074) 2046 u t x;rw[l];exact g.R7 a (by omega) (by omega) e
    .obtain⟨c,l⟩:∃c,bF (numOf d) (fF d)=c:=⟨_,rfl⟩;rw[l]at p h v b;have e:f=c.bits:=aGo (N:=numOf d*2^1074) (D:=fF d) g.le p i s h.low (az h.high);have r:kY d f=c.half:=by rw[nY a (by omega) (by omega),e];exact h.half
     have u:b8 c=pT d f:=by
      rw[aJ7 v (by rw[<-h.half];exact aD5 _ _)];unfold pT;rw[r,e]
     unfold f9 cD;rw[b,u]
end
end
theorem aI7(w:Z)(b:Nat)(a:b<18446744073709551616):T E 145 #[O bu b] w λe w'=>e=ae (ak #[O U 3,ba Q,O bu (dY b:Nat),aw ⟨#[]⟩,J I 0 0,J I 0 0])/\af w.heap.size w w':=by
 by_cases h:b=9223372036854775808
 .have e:dY b=0:=by unfold dY;rw[if_pos h]
  rw[e];have q:((b:Int)==9223372036854775808)=ag:=by simp;omega
  clear e h;go_enter func145,ntmps145;go_wp2_with fail;exact ar (v:=ak #[O U 3,ba Q,O bu 0,aw ⟨#[]⟩,J I 0 0,J I 0 0]) (by simp[au,gu,go_sem]) rfl ⟨rfl,(P _ _).alloc (H _) _⟩
 .have e:dY b=b:=by unfold dY;rw[if_neg h]
  rw[e];have q:((b:Int)==9223372036854775808)=Q:=by simp;omega
  clear e h;go_enter func145,ntmps145;go_wp2_with fail;exact ar (v:=ak #[O U 3,ba Q,O bu b,aw ⟨#[]⟩,J I 0 0,J I 0 0]) (by simp[au,gu,go_sem]) rfl ⟨rfl,(P _ _).alloc (H _) _⟩
end Go.Proofs.YtakkmiomhackiaaGreatDoor
