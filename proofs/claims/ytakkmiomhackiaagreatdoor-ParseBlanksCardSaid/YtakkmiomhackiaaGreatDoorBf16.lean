/-
  The program, one part of its walk. Conditions: none.
-/
import Derived.Test.YtakkmiomhackiaaGreatDoorBf08
import Derived.Test.YtakkmiomhackiaaGreatDoorBf11
set_option linter.all false
set_option maxRecDepth 100000
set_option maxHeartbeats 16000000
open Go.Proofs.Tryz
open BitVec renaming ofInt->dx
open Bool renaming false->ah
open Go renaming Calls->Z,Value->bx,World->S,bodyPost_ret->bp,cell_of_one->V,free_of_one->R,heap_alloc_new->bm,lt_of_block->ar,results->bu
open Go.BinOp renaming and->cw
open Go.Ending renaming returned->E
open Go.IntKind renaming bits->ek,i32->Y,i64->O,signed->em,u64->ac,u8->bw,wrap->ej,wrap_i64->ae,wrap_u64->eh,wrap_u8->ee
open Go.Obj renaming cells->N
open Go.Proofs.Tryz renaming func160->bc,func188->cg,ntmps160->bh,ntmps188->cj,prog->H,results159->dt,results181->du
open Go.Proofs.YtakkmiomhackiaaGreatDoor.Fig renaming Small->dj,figs->ak,figs_length_le->di,val->ba
open Go.Proofs.YtakkmiomhackiaaGreatDoor.Keeps renaming A8->dy
open Go.RowKit renaming Below->aj,Hid->G
open Go.RowKit.Below renaming heap_alloc->ck,refl->ao
open Go.Value renaming agg->ag,bool->au,int->J,pointer->bz,slice->I,string->bk,tuple->aw
open Int renaming lt_or_le->dw,natCast_zero->cz
open List renaming eq_nil_of_length_eq_zero->cu,length_append->cv,length_drop->cr,length_singleton->dl,length_take->dh,mem_append->dm,mem_of_mem_take->ct,mem_singleton->dp
open Nat renaming le_refl->Q,le_trans->co,lt_of_lt_of_le->av,mod_lt->dq,pow_le_pow_left->dv,pow_le_pow_right->bj
open Option renaming none->af,some->U
open Or renaming inl->ai
open UInt8.toNat renaming inj->ei
namespace Go.Proofs.YtakkmiomhackiaaGreatDoor
open Go.RowKit
variable {n:Nat}
def aFo(a:Option Addr)(k c:Nat)(l:List Nat)(w:S)(h:Fgs w (I a k c) l)(j:l.length<617):Z H 200 #[ag #[I a k c]] w λe w'=>e=E (au ah)/\aj w w w':=by
 obtain⟨m,i,b⟩:=Row.A7 h;injection b with f d g
 subst f d g;have q:(l.length:Int)<617:=by omega
 clear h;go_enter func200,ntmps200;go_wp2;go_ret;exact⟨rfl,(ao _ _).alloc (Q _) _⟩
def aHY{l:Oo}{F i:Nat}(a:F<=i)(hi:i<l.length):(l.drop F).take (i+1-F)=(l.drop F).take (i-F)++ [l[i]]:=by
 rw[show i+1-F=(i-F)+1 by omega,List.take_succ_eq_append_getElem (by rw[cr];omega),List.getElem_drop];congr 3;omega
def aGP{l:Oo}(h:∀x∈l,48<=x.toNat/\x.toNat<=57)(F n:Nat):bO ((l.drop F).take n)<10^n:=by
 have a:=kH (l:=(l.drop F).take n) (λx b=>(h x (List.mem_of_mem_drop (ct b))).2);exact av a (bj (by decide) (by rw[dh];omega))
def aFp(s:ByteArray)(w:S)(g:∀x∈s.data.toList,48<=x.toNat/\x.toNat<=57)(hs:s.size<=2000)(hp:0<s.size)(q0:s[0].toNat≠48):
 Z H 182 #[s] w λe w'=>∃a k c,e=E (aw #[ag #[I a k c],au true])/\Fgs w' (I a k c) (ak (bO s.data.toList))/\aj w w w':=by
 have d:(ak (bO s.data.toList)).length<=500:=by
  have j:=kH (l:=s.data.toList) (λx W=>(g x W).2);obtain⟨m,h⟩:∃m,m=500:=⟨_,rfl⟩;rw[<-h];refine di (av j ?_);rw[show 10000=10^4 from rfl,<-Nat.pow_mul];exact bj (by decide) (by rw[h];simpa using hs)
 obtain⟨D,h⟩:∃D,bO s.data.toList=D:=⟨_,rfl⟩;rw[h]at d⊢;have HL:=A d;have HD:=A h;have HS:=A g;clear d h g;go_enter func182,ntmps182;go_wp2_with fail;refine wp_loop_rounds 1 ?_;rw[rounds_succ]
 have q2:¬((s[0].toNat:Nat):Int)=48:=by omega
 have q3:(((s[0].toNat:Nat):Int)==48)=ah:=by simpa using q2
 have q4:¬(2467:Int)<(s.size:Int):=by omega
 go_wp2
 go_loopw [0,4] (λv f wr=>∃(t:ByteArray)(r:List Nat),v=bk t/\M (∀x∈t.data.toList,48<=x.toNat/\x.toNat<=57)/\r.length+t.size<=2000/\Row (w.heap.size+1) 3 encI wr f r/\dj r/\M (ba r+10000^r.length*bO t.data.toList=D)/\aj (w.heap.size+1) (w.alloc (N #[()] 324)) wr) (λv _ _=>match v with| .string t=>t.size|_=>0)
 case atStart=>exact⟨s,[],rfl,HS,by simpa using hs,Row.nil _ _ _ _,by simp[dj],A (by simp[ba,HD.o]),ao _ _⟩
 case round=>
  obtain⟨t,r,rfl,q,C,d,K,HV,g⟩:=hrel;have g4:w.heap.size+1<=wr.heap.size:=by simpa using g.size
  by_cases hz:t.size=0
  .have j:t.data.toList= []:=cu (by simpa using hz);have h:=HV.o;rw[j]at h;have g6:=A (show ba r=D by simpa[bO]using h);clear j h;go_wp2_with fail;refine(aC0 _ r _ K (d.D6 (Nat.zero_le _))).mono ?_;rintro e u ⟨a3,h,j,rfl,hm,m⟩;rw[g6.o]at hm;have n:=(g.block _ (by omega)).trans (bm w _);have L:aj w w u:=chain (((ao _ _).alloc (Q _) _).trans (g.mono (by omega))) m;have g5:=keep n m;have g7:(ak D).length<617:=by have:=HL.o;omega
   have g8:(u.alloc (N #[I a3 h j] 324)).heap[u.heap.size]?=U (N #[I a3 h j] 324 (0,0)):=bm u _;have h5:=(ck u (N #[I a3 h j] 324) _ (ar g5)).trans g5;have P:=L.alloc (by have:=m.size;omega) (N #[I a3 h j] 324);have z:=hm.A6 (N #[I a3 h j] 324);have g9:=ar g8;clear d g n;go_wp2_with fail;generalize u.alloc (N #[I a3 h j] 324)=w4 at*;have h0:=V g8
   go_region_with
    (go_at_call 200;(with_reducible refine(aFo a3 h j _ _ z.B0 g7).mono ?_);rintro e wx ⟨rfl,n⟩;have B:=(n.cell (p:=u) (by simpa using g9)).trans h0;have T:=keep (w1:=w4.drew) h5 n;have h2:=R T;have h3:=V T)
   all_goals
    have z6:=V (aB (o:=0) T (I a3 h j));have h7:=A (((z.B0).A4 n).B5 T (by decide) 0 (I a3 h j));have T:=A ((chain P.drew n).setCell (p:=w) (Q _) (I a3 h j));clear hm z n P g5 L B h2 h3;go_wp2;exact bp (v:=aw #[ag #[I a3 h j],au true]) (by simp[bu,results182,go_sem,z6]) rfl ⟨a3,h,j,rfl,h7.o,T.o⟩
  .have z1:(0:Int)<(t.size:Int):=by omega
   obtain⟨F,hF⟩:∃F,t.size-4=F:=⟨_,rfl⟩;have g6:F<=t.size:=by omega
   have h7:t.size<=2000:=by omega
   have g7:t.size-F<=4:=by omega
   have h8:F<t.size:=by omega
   have j:t.data.toList.length=t.size:=by simp
   have m:∀X,X=bO ((t.data.toList.drop F).take (t.size-F))->X<10000/\ba (r++ [X])+10000^(r++ [X]).length*bO (t.data.toList.take F)=D:=by
    intro X n;have L:=aGP q.o F (t.size-F);rw[<-n]at L;refine⟨av L (co (bj (by decide) g7) (by decide)),?_⟩;have z:=jV (t.data.toList.take F) (t.data.toList.drop F);rw[List.take_append_drop,cr,j]at z;rw[List.take_of_length_le (by rw[cr,j];omega)]at n;rw[<-n]at z;rw[Fig.val_append,cv,dl,Nat.pow_succ,<-HV.o,z,Nat.mul_add];have P:10000^r.length*ba [X]=10000^r.length*X:=by simp[ba]
    have T:10000*bO (t.data.toList.take F)=bO (t.data.toList.take F)*10^(t.size-F):=by
     by_cases h4:4<t.size
     .rw[show t.size-F=4 by omega,Nat.mul_comm]
     .rw[show F=0 by omega];simp[bO]
    rw[P,Nat.mul_assoc,T];omega
   have L:∀x∈(t.extract 0 F).data.toList,48<=x.toNat/\x.toNat<=57:=λx W=>q.o x (by
    rw[show(t.extract 0 F).data.toList=t.data.toList.take F by simp]at W;exact ct W)
   have P:(t.extract 0 F).size=F:=by simp;omega
   have T:(t.extract 0 F).data.toList=t.data.toList.take F:=by simp
   have z:(4:Int)<(t.size:Int)/\O.wrap ((t.size:Int)-4)=(F:Int)\/¬(4:Int)<(t.size:Int)/\M (F=0):=by
    rcases Nat.lt_or_ge 4 t.size with a0|a0
    .exact ai ⟨by omega,by rw[ae];omega⟩
    .exact .inr ⟨by omega,A (by omega)⟩
   have n:=A m;have g9:=A L;have h0:=A P;have h2:=A T;have HR:=A C;have h3:=A j;clear m L P T C j;clear hF;rcases z with⟨q5,q6⟩|⟨q5,H0⟩
   all_goals
    go_wp2
    go_loopw [7,6] (λv x wx=>∃(i X:Nat),v=J O i/\F<=i/\i<=t.size/\x=J O X/\M (X=bO ((t.data.toList.drop F).take (i-F)))/\X<10000/\wr=wx) (λv _ _=>t.size-(intOf v).toNat)
    case atStart=>exact⟨F,0,(by first|rfl|rw[H0.o];rfl),Q _,g6,rfl,A (by simp[bO]),by decide,rfl⟩
    case round=>
     obtain⟨i,X,rfl,m,h9,rfl,C,i0,rfl⟩:=hrel
     by_cases L:i<t.size
     .have k1:(i:Int)<(t.size:Int):=by omega
      have hc:=q.o (t[i]) (by show t.data[i]∈t.data.toList;exact Array.getElem_mem_toList _);have k2:bw.wrap (((t[i].toNat:Nat):Int)-48)=((t[i].toNat-48:Nat):Int):=by rw[ee];omega
      have j:10*X+(t[i].toNat-48)=bO ((t.data.toList.drop F).take (i+1-F)):=by
       rw[aHY m (by rw[h3.o];exact L),tP,<-C.o];rfl
      have P:10*X+(t[i].toNat-48)<10000:=by
       rw[j];exact av (aGP q.o F (i+1-F)) (co (bj (by decide) (show i+1-F<=4 by omega)) (by decide))
      generalize t[i].toNat-48=y at*;have T:=A j;have h:O.wrap ((10:Int)*(X:Int))=((10*X:Nat):Int):=by rw[ae];omega
      have k4:O.wrap (((10*X:Nat):Int)+(y:Int))=((10*X+y:Nat):Int):=by rw[ae];omega
      clear j hc;go_wp2_with fail;exact⟨⟨i+1,10*X+y,by go_num,by omega,by omega,by go_num,T,P,trivial⟩,by simp[intOf];omega⟩
     .obtain rfl:i=t.size:=by omega
      obtain⟨B,h⟩:=n.o X C.o;have P:=A h;have k1:¬(t.size:Int)<(t.size:Int):=by omega
      have T:(F:Int)<=(t.size:Int):=by omega
      have i1:=HR.o;clear h n C
      go_wp2_with (at_builtin;refine cV aCZ rfl _ _ rfl rfl (d.A6 _) ⟨wr.heap.size,0,af⟩ 1 X rfl ?_ rfl ?_ ?_ ?_ ?_)
      .omega
      .unfold maxLen;omega
      ·(try simp);omega
      intro b cap u j h;have n:=(g.alloc g4 (N #[J O (X:Int)] 3)).grown h (by simp;omega) (λk hk=>(d.lt k hk).1);have C:=A j;clear j h d;go_wp2
      go_roundw
      case rel=>exact⟨t.extract 0 F,r++ [X],(by first|rfl|(rw[H0.o];simp)),g9,by rw[h0.o,cv,dl];omega,C.o,λy d=>by
       rcases dm.1 d with a0|a0
       .exact K y a0
       .rw[dp.1 a0];exact B,by rw[h2.o];exact P,n⟩
      case measure=>(simp;omega)
def aGT{b:Nat}(h:b<18446744073709551616)(d:Nat)(c:d+1=2^n)(a:d<18446744073709551616):bits cw ac (b:Int) (d:Int)=((b%(d+1):Nat):Int):=by
 rw[bits_and_u64_nat b d h a,show d=2^n-1 by omega,Nat.and_two_pow_sub_one_eq_mod];rw[show 2^n-1+1=2^n by omega]
def yT(b:Nat)(w:S)(h:b<9223372036854775808):Z H 159 #[J ac b] w λe w'=>e=E (aw #[J ac (fN b),J O (fX b)])/\w'=w:=by
 have b1:bits cw ac (b:Int) 4503599627370495=((b%4503599627370496:Nat):Int):=aGT (n:=52) (by omega) 4503599627370495 (by decide) (by decide);have b2:bits cw ac ((b:Int)/4503599627370496) 2047=((b/4503599627370496%2048:Nat):Int):=aGT (b:=b/4503599627370496) (n:=11) (by omega) 2047 (by decide) (by decide);unfold fX fN nN;have d:b%4503599627370496<4503599627370496:=dq _ (by decide);have g:b/4503599627370496%2048<2048:=dq _ (by decide);generalize b%4503599627370496=m at*;generalize b/4503599627370496%2048=e at*;have b3:O.wrap (e:Int)=(e:Int):=by rw[ae];omega
 have b4:O.wrap ((e:Int)-1075)=(e:Int)-1075:=by rw[ae];omega
 have f:ac.wrap ((m:Int)+4503599627370496)=((m+4503599627370496:Nat):Int):=by rw[eh];omega
 by_cases c:e=0
 .subst c;rw[if_pos rfl];simp only[cz]at*;go_enter func159,ntmps159;go_wp2_with fail;exact bp (v:=aw #[J ac m,J O (-1074)]) (by simp[bu,dt,go_sem]) rfl ⟨rfl,rfl⟩
 .rw[if_neg c];have c1:¬(e:Int)=0:=by omega
  have c2:((e:Int)==0)=ah:=by simpa using c1
  have a:((e-1:Nat):Int)-1074=(e:Int)-1075:=by omega
  rw[a];clear a;go_enter func159,ntmps159;go_wp2_with fail;exact bp (v:=aw #[J ac ((m+4503599627370496:Nat):Int),J O ((e:Int)-1075)]) (by simp[bu,dt,go_sem]) rfl ⟨rfl,rfl⟩
def aH5(neg:Bool)(a:ByteArray)(e:Int)(w:S)(k:a.size<=2147483648)(i: -4611686018427387904<=e)(g:e<=4611686018427387904):
 Z H 181 #[ag #[neg,a,e]] w λr w'=>r=E (fV ⟨neg,bG a.data.toList,eD a.data.toList e⟩)/\aj w w w':=by
 have b:a.data.toList.length=a.size:=by simp
 by_cases h:800<a.size
 .have d:(800:Int)<(a.size:Int):=by omega
  have l:O.wrap (e+(a.size:Int))=e+(a.size:Int):=by rw[ae];omega
  have j:O.wrap (e+(a.size:Int)-801)=e+(a.size:Int)-801:=by rw[ae];omega
  go_enter func181,ntmps181;go_wp2;go_region;go_wp2_with fail;refine bp (v:=ag #[neg,bk (a.extract 0 800++⟨#[49]⟩),J O (e+a.size-801)]) (by simp[bu,du,go_sem]) rfl ⟨?_,((((ao _ _).alloc (Q _) _).alloc (by simp) _).drew)⟩;have c:bG a.data.toList=(a.extract 0 800++⟨#[49]⟩:ByteArray).data.toList:=by unfold bG;rw[if_pos (by omega)];simp
  have f:eD a.data.toList e=e+a.size-801:=by unfold eD;rw[if_pos (by omega),b];omega
  rw[c,f];rfl
 .have d:¬(800:Int)<(a.size:Int):=by omega
  unfold bG eD;rw[if_neg (by omega),if_neg (by omega)];go_enter func181,ntmps181;go_wp2_with fail;exact bp (v:=ag #[neg,a,e]) (by simp[bu,du,go_sem]) rfl ⟨rfl,((ao _ _).alloc (Q _) _).alloc (by simp) _⟩
def aKf{k:Nat}(h:n<10000^k)(a:k<=1048576):(ak n).length<=1048576:=co (di h) a
def yU{X a:Nat}(h:X<10000^a):X*10^n<10000^(a+n):=by
 rw[Nat.pow_add];exact Nat.mul_lt_mul_of_lt_of_le h (dv (by decide) n) (Nat.pow_pos (by decide))
def yV(neg:Bool)(a:ByteArray)(e:Int)(m:Nat)(k:Int)(w:S)(t:a.size<=2147483648)(v: -4611686018427387904<=e)(p:e<=4611686018427387904)
 (h:a.data.toList= []\/m=0\/320<(a.size:Int)+e\/(a.size:Int)+e< -340):
 Z H 160 #[ag #[neg,a,e],J ac m,k] w λr w'=>r=E (J O (aW ⟨neg,a.data.toList,e⟩ m k))/\aj w w w':=by
 have g:a.data.toList.length=a.size:=by simp
 have q:O.wrap ((a.size:Int)+e)=(a.size:Int)+e:=by rw[ae];omega
 have f:=(ao w w).alloc (Q _) (N #[neg,a,e] 251)
 by_cases s:a.size=0
 .have c:a.data.toList= []:=cu (by omega)
  by_cases d:m=0
  .subst d;have b:aW ⟨neg,a.data.toList,e⟩ 0 k=0:=by unfold aW;rw[c];simp
   rw[b];simp only[cz];clear h c b;go_enter bc,bh;go_wp2;go_ret;exact⟨rfl,f⟩
  .have b:aW ⟨neg,a.data.toList,e⟩ m k= -1:=by unfold aW;rw[c];simp;omega
   rw[b];have n:(0:Int)<(m:Int):=by omega
   clear h c b;go_enter bc,bh;go_wp2;go_ret;exact⟨rfl,f⟩
 .have c:a.data.toList≠ []:=λe=>by rw[e]at g;simp at g;omega
  have o:¬(a.size:Int)=0:=by omega
  have n:((a.size:Int)==0)=ah:=by simpa using o
  have u:(0:Int)<(a.size:Int):=by omega
  by_cases d:m=0
  .subst d;have b:aW ⟨neg,a.data.toList,e⟩ 0 k=1:=by unfold aW;rw[if_pos (by simp),if_pos c]
   rw[b];simp only[cz];clear h c b;go_enter bc,bh;go_wp2;go_ret;exact⟨rfl,f⟩
  .have l:¬(m:Int)=0:=by omega
   have x:((m:Int)==0)=ah:=by simpa using l
   by_cases i:320<(a.size:Int)+e
   .have b:aW ⟨neg,a.data.toList,e⟩ m k=1:=by unfold aW fJ;simp only[g];rw[if_neg (by simp[c,d]),if_pos i]
    rw[b];clear h c b;go_enter bc,bh;go_wp2;go_ret;exact⟨rfl,f⟩
   .have j:(a.size:Int)+e< -340:=by
     rcases h with h|h|h|h
     .exact absurd h c
     .exact absurd h d
     .exact absurd h i
     .exact h
    have b:aW ⟨neg,a.data.toList,e⟩ m k= -1:=by unfold aW fJ;simp only[g];rw[if_neg (by simp[c,d]),if_neg i,if_pos j]
    rw[b];clear h c b;go_enter bc,bh;go_wp2;go_ret;exact⟨rfl,f⟩
def aLx{d:Oo}(h:∀c∈d,isD c=true):∀c∈bG d,48<=c.toNat/\c.toNat<=57:=by
 unfold bG;intro c b;split at b
 .rcases dm.1 b with a|a
  .exact kK (h c (ct a))
  .rw[dp.1 a];decide
 .exact kK (h c b)
def aKg(a:Oo):(bG a).length<=801:=by
 unfold bG;split
 .rw[cv,dh];simp;omega
 .omega
def aAm(neg:Bool)(d:ByteArray)(e:Int)(m:Nat)(k:Int)(w:S)(f:gC ⟨neg,d.data.toList,e⟩)(hs:d.size<=2147483648)
 (y:d.data.toList≠ [])(hm:m≠0)(i:m<18446744073709551616)(ht:(d.size:Int)+e<=320)(k4: -340<=(d.size:Int)+e)(hk: -1100<=k)(h4:k<=1100):
 Z H 160 #[ag #[neg,d,e],J ac m,k] w λr w'=>r=E (J O (aW ⟨neg,d.data.toList,e⟩ m k))/\aj w w w':=by
 have hl:d.data.toList.length=d.size:=by simp
 have q0:O.wrap ((d.size:Int)+e)=(d.size:Int)+e:=by rw[ae];omega
 have q1:¬(320:Int)<(d.size:Int)+e:=by omega
 have q2:¬(d.size:Int)+e< -340:=by omega
 have k5:d.size≠0:=λa1=>y (cu (by omega))
 have z1:¬(d.size:Int)=0:=by omega
 have z2:((d.size:Int)==0)=ah:=by simpa using z1
 have y1:¬(m:Int)=0:=by omega
 have y2:((m:Int)==0)=ah:=by simpa using y1
 have a:=aGS f y;have j:=yS d.data.toList e;obtain⟨c0,t0,u0,z,g⟩:=aDy y;have B:c0≠48:=f.first c0 t0 z;have h:=aLx f.b;have l:=aKg d.data.toList;have h7:=A (λW:S=>aH5 neg d e W hs (by omega) (by omega))
 have hv:aW ⟨neg,d.data.toList,e⟩ m k=gG (bO (bG d.data.toList)*10^(eD d.data.toList e).toNat*2^(-k).toNat) (m*10^(-eD d.data.toList e).toNat*2^k.toNat):=by
  unfold aW fJ numOf fI;simp only[hl];rw[if_neg (by simp[y,hm]),if_neg q1,if_neg q2]
 rw[hv];unfold fV at h7;simp only at h7;unfold numOf at a;simp only at a;obtain⟨C,hC⟩:∃C:ByteArray,(⟨(bG d.data.toList).toArray⟩:ByteArray)=C:=⟨_,rfl⟩;have D:bG d.data.toList=C.data.toList:=by rw[<-hC]
 simp only[hC]at h7;rw[D]at j g h l a⊢;have q:C.data.toList.length=C.size:=by simp
 rw[q]at j l;generalize eD d.data.toList e=a0 at*;have F:0<C.size:=by rw[<-q,g];simp
 have L:C[0].toNat≠48:=by
  have c:C.data.toList[0]?=U C[0]:=by rw[List.getElem?_eq_getElem (by omega)];rfl
  rw[g]at c;simp at c;rw[<-c];intro a1;exact B (ei a1)
 obtain⟨a2,hT⟩:∃a2,a2=801:=⟨_,rfl⟩;have c:bO C.data.toList<10000^a2:=av (kH λx hx=>(h x hx).2) (co (dv (by decide) _) (bj (by decide) (by omega)));have i4:=A (λW:S=>aFp C W h (by omega) F L);obtain⟨X,hX⟩:∃X,bO C.data.toList=X:=⟨_,rfl⟩;rw[hX]at i4 c a⊢;have P:X≠0:=λa1=>by rw[a1]at a;simp at a
 have h5: -1141<=a0:=by omega
 have h6:a0<=320:=by omega
 have T:m<10000^5:=av i (by decide);have j6:=A P;have i0:=A (aKf (yU (n:=a0.toNat) c) (by omega));have i1:=A (aKf (yU (n:=(-a0).toNat) T) (by omega));obtain⟨Xn,u⟩:∃Xn,X*10^a0.toNat=Xn:=⟨_,rfl⟩;obtain⟨Yn,v⟩:∃Yn,m*10^(-a0).toNat=Yn:=⟨_,rfl⟩;rw[u]at i0⊢;rw[v]at i1⊢;obtain⟨Xf,s⟩:∃Xf,Xn*2^(-k).toNat=Xf:=⟨_,rfl⟩;obtain⟨Yf,t⟩:∃Yf,Yn*2^k.toNat=Yf:=⟨_,rfl⟩;rw[s,t];have i5:=A u;have i6:=A s;have i7:=A v;have i8:=A t;have j7:=A (λW:S=>sM m W i);have j8:=A hm;clear f y a z g B h l hv hC D q F L hX P c i j hm u s v t T;have i:=(ao w w).alloc (Q _) (N #[neg,d,e] 251);have j:(w.alloc (N #[neg,d,e] 251)).heap[w.heap.size]?=U (N #[neg,d,e] 251 (0,0)):=bm w _;go_enter bc,bh;go_wp2_with fail;refine(h7.o _).mono ?_;rintro r w1 ⟨rfl,a⟩;have j:=keep j a;have i:=chain i a;obtain⟨c0,c1,c2,cf⟩:=cells3 j;have h8:=A j;have HB:=A i;clear j i a;go_wp2_with fail;have j:=aB (o:=2) (aB (o:=1) (aB (o:=0) h8.o (au neg)) (bk C)) (J O a0);have i:=((HB.o.setCell (p:=w) (Q _) (au neg)).setCell (p:=⟨w.heap.size,1,af⟩) (Q _) (bk C)).setCell (p:=⟨w.heap.size,2,af⟩) (Q _) (J O a0);generalize ((w1.setCell {block:=w.heap.size,off:=0} (au neg)).setCell {block:=w.heap.size,off:=1} (bk C)).setCell {block:=w.heap.size,off:=2} (J O a0)=w2 at*;have j:w2.heap[w.heap.size]?=U (N #[neg,C,a0] 251 (0,0)):=j;clear h8 HB c0 c1 c2 cf;refine(i4.o _).mono ?_;rintro r y ⟨ax,kx,cx,rfl,f,a⟩;have j:=keep j a;have i:=chain i a;have j9:=ar j;have l:(y.alloc (N #[I ax kx cx] 324)).heap[y.heap.size]?=U (N #[I ax kx cx] 324 (0,0)):=bm y _;have j:=(ck y (N #[I ax kx cx] 324) _ j9).trans j;have i:=i.alloc (by omega) (N #[I ax kx cx] 324);have f:=f.A6 (N #[I ax kx cx] 324);have h8:=A j;have g:=A l;have HB:=A i;have q:=A f;clear j i l f a;go_wp2_with fail;generalize y.alloc (N #[I ax kx cx] 324)=w4 at*;refine(j7.o _).mono ?_;rintro r t ⟨ay,ky,cy,rfl,s,h⟩;have j:=keep h8.o h;have l:=keep g.o h;have i:=chain HB.o h;have f:=q.o.A4 h;have k0:=ar l;have c:(t.alloc (N #[I ay ky cy] 324)).heap[t.heap.size]?=U (N #[I ay ky cy] 324 (0,0)):=bm t _;have j:=(ck t (N #[I ay ky cy] 324) _ (ar j)).trans j;have l:=(ck t (N #[I ay ky cy] 324) _ k0).trans l;have i:=i.alloc (by omega) (N #[I ay ky cy] 324);have f:=f.A6 (N #[I ay ky cy] 324);have s:=s.A6 (N #[I ay ky cy] 324);have h9:y.heap.size≠t.heap.size:=by omega
 have i9:w.heap.size<=y.heap.size:=by omega
 have j0:w.heap.size<=t.heap.size:=by omega
 obtain⟨c0,c1,c2,cf⟩:=cells3 j;have c8:=V l;have j1:=V c;have f8:=R l;have j2:=R c;have g:=A l;have a:=A c;have HB:=A i;have q:=A f;have L:=A s;clear j l c i f s h
 have k1:(∃n:Nat,a0=(n:Int)/\n<=1141)\/(∃n:Nat,a0= -(n:Int)/\1<=n/\n<=1141):=by
  rcases dw a0 0 with a1|a1
  .exact .inr ⟨(-a0).toNat,by omega,by omega,by omega⟩
  .exact ai ⟨a0.toNat,by omega,by omega⟩
 have k2:(∃K:Nat,k=(K:Int)/\K<=1100)\/(∃K:Nat,k= -(K:Int)/\1<=K/\K<=1100):=by
  rcases dw k 0 with a1|a1
  .exact .inr ⟨(-k).toNat,by omega,by omega,by omega⟩
  .exact ai ⟨k.toNat,by omega,by omega⟩
 clear hk h4 h5 h6;rcases k1 with⟨n,rfl,hn⟩|⟨n,rfl,k6,hn⟩
 all_goals
  rcases k2 with⟨K,rfl,hK⟩|⟨K,rfl,k8,hK⟩
  all_goals
   have j3:=A (λW:S=>aLf K W (by omega));go_wp2_with fail;generalize h:t.alloc (N #[I ay ky cy] 324)=w6 at*;clear h
   first
    | (have T:X=Xn:=by have:=i5.o;simpa using this
       have e2:m*10^n=Yn:=by have:=i7.o;simpa using this
       refine(xW ay ky cy m n _ L.o j8.o (by omega) (by rw[e2];exact i1.o)).mono ?_;rintro r w7 ⟨z,B,D,rfl,F,h⟩;rw[e2]at F;have l:=keep g.o h;have c:=keep a.o h;have i:=chain HB.o h;have f:=q.o.A4 h;rw[T]at f;have j2:=R c;have j1:=V c;have g:=A ((aE (o:=0) (I z B D) h9).trans l);have a:=A (aB (o:=0) c (I z B D));have L:=A (F.B5 c (by decide) 0 (I z B D));have q:=A (f.B5 c (by decide) 0 (I z B D));have HB:=A (i.setCell (p:=t) j0 (I z B D));have i2:=V g.o;have h4:=V a.o;have i3:=R g.o;have h5:=R a.o;clear F h l c i f T e2;go_wp2_with fail;generalize w7.setCell t (I z B D)=P at*;obtain⟨x1,x2,x3,y1,y2,y3,G8,h6,f,FY⟩:∃x1 x2 x3 y1 y2 y3,M (P.heap[y.heap.size]?=U (N #[I x1 x2 x3] 324 (0,0)))/\M (P.heap[t.heap.size]?=U (N #[I y1 y2 y3] 324 (0,0)))/\M (Fgs P (I x1 x2 x3) (ak Xn))/\M (Fgs P (I y1 y2 y3) (ak Yn)):=⟨ax,kx,cx,z,B,D,g,a,q,L⟩;clear i2 h4 i3 h5 j2 j1)
    | (have T : X * 10 ^ n = Xn := by have := i5.o; simpa using this
       have e2:m=Yn:=by have:=i7.o;simpa using this
       refine(xW ax kx cx X n _ q.o j6.o (by omega) (by rw[T];exact i0.o)).mono ?_;rintro r w7 ⟨z,B,D,rfl,F,h⟩;rw[T]at F;have l:=keep g.o h;have c:=keep a.o h;have i:=chain HB.o h;have s:=L.o.A4 h;rw[e2]at s;have f8:=R l;have c8:=V l;have a:=A ((aE (o:=0) (I z B D) h9.symm).trans c);have g:=A (aB (o:=0) l (I z B D));have q:=A (F.B5 l (by decide) 0 (I z B D));have L:=A (s.B5 l (by decide) 0 (I z B D));have HB:=A (i.setCell (p:=y) i9 (I z B D));have i2:=V g.o;have h4:=V a.o;have i3:=R g.o;have h5:=R a.o;clear F h l c i s T e2;go_wp2_with fail;generalize w7.setCell y (I z B D)=P at*;obtain⟨x1,x2,x3,y1,y2,y3,G8,h6,f,FY⟩:∃x1 x2 x3 y1 y2 y3,M (P.heap[y.heap.size]?=U (N #[I x1 x2 x3] 324 (0,0)))/\M (P.heap[t.heap.size]?=U (N #[I y1 y2 y3] 324 (0,0)))/\M (Fgs P (I x1 x2 x3) (ak Xn))/\M (Fgs P (I y1 y2 y3) (ak Yn)):=⟨z,B,D,ay,ky,cy,g,a,q,L⟩;clear i2 h4 i3 h5 f8 c8)
   have j1:=ar G8.o;have j2:=ar h6.o;have d8:=V G8.o;have h4:=V h6.o;have j5:=aGK (k:=K) (by omega);have k9:O.wrap (K:Int)=(K:Int):=by rw[ae];omega
   have fx:=f.o;have fy:=FY.o
   first
    | (have T:Xn*2 ^ K=Xf:=by have:=i6.o;simpa using this
       have e2:Yn=Yf:=by have:=i8.o;simpa using this
       go_region_with
        (first|(go_at_call 186;(with_reducible refine(j3.o _).mono ?_);rintro r wx ⟨ap,kp,cp,rfl,B,c⟩;have u:=(c.cell (p:=y) (by simpa using j1)).trans d8)|(go_at_call 185;(with_reducible refine(j4 x1 ap x2 kp x3 cp Xn (2^K) _ ((fx.B0).A4 c) B i0.o j5).mono ?_);rintro r wy ⟨l,s,z,rfl,i,f⟩;have F:=keep (keep (w1:=P.drew) G8.o c) f;have h5:=R F;have v:=V F))
       all_goals
        rw[T]at i;have h:=keep (keep (w1:=P.drew) h6.o c) f;have i2:=((fy.B0).A4 c).A4 f;rw[e2]at i2;have D:=(chain (chain HB.o.drew c) f).setCell (p:=y) i9 (I l s z);have ZX:=A (i.B5 F (by decide) 0 (I l s z));have ZY:=A (i2.B5 F (by decide) 0 (I l s z));have z8:=V (aB (o:=0) F (I l s z));have k3:=V ((aE (w:=wy) (o:=0) (k:=t.heap.size) (b:=y.heap.size) (I l s z) h9.symm).trans h);have ZB:=A D;clear c f B i u v h5 F h i2 D d8 h4 fx fy T e2;go_wp2_with fail;refine(xU l y1 s y2 z y3 Xf Yf _ ZX.o ZY.o).mono ?_;rintro r wz ⟨rfl,i2⟩;have i3:=chain ZB.o i2;go_wp2;go_ret;exact⟨rfl,i3⟩)
    | (have T : Xn = Xf := by have := i6.o; simpa using this
       have e2:Yn*2^K=Yf:=by have:=i8.o;simpa using this
       go_region_with
        (first|(go_at_call 186;(with_reducible refine(j3.o _).mono ?_);rintro r wx ⟨ap,kp,cp,rfl,B,c⟩;have u:=(c.cell (p:=t) (by simpa using j2)).trans h4)|(go_at_call 185;(with_reducible refine(j4 y1 ap y2 kp y3 cp Yn (2^K) _ ((fy.B0).A4 c) B i1.o j5).mono ?_);rintro r wy ⟨l,s,z,rfl,i,f⟩;have h:=keep (keep (w1:=P.drew) h6.o c) f;have h5:=R h;have v:=V h))
       all_goals
        rw[e2]at i;have F:=keep (keep (w1:=P.drew) G8.o c) f;have P:=((fx.B0).A4 c).A4 f;rw[T]at P;have D:=(chain (chain HB.o.drew c) f).setCell (p:=t) j0 (I l s z);have ZX:=A (P.B5 h (by decide) 0 (I l s z));have ZY:=A (i.B5 h (by decide) 0 (I l s z));have k3:=V (aB (o:=0) h (I l s z));have z8:=V ((aE (w:=wy) (o:=0) (k:=y.heap.size) (b:=t.heap.size) (I l s z) h9).trans F);have ZB:=A D;clear c f B i u v h5 F h P D d8 h4 fx fy T e2;go_wp2_with fail;refine(xU x1 l x2 s x3 z Xf Yf _ ZX.o ZY.o).mono ?_;rintro r wz ⟨rfl,i2⟩;have i3:=chain ZB.o i2;go_wp2;go_ret;exact⟨rfl,i3⟩)
def nD(neg:Bool)(a:ByteArray)(e:Int)(m:Nat)(k:Int)(w:S)(b:gC ⟨neg,a.data.toList,e⟩)(g:a.size<=2147483648)(l: -4611686018427387904<=e)(d:e<=4611686018427387904)
 (f:m<18446744073709551616)(j: -1100<=k)(c:k<=1100):
 Z H 160 #[ag #[neg,a,e],J ac m,k] w λr w'=>r=E (J O (aW ⟨neg,a.data.toList,e⟩ m k))/\aj w w w':=by
 by_cases h:a.data.toList= []\/m=0\/320<(a.size:Int)+e\/(a.size:Int)+e< -340
 .exact yV neg a e m k w g l d h
 .have n:a.data.toList≠ []:=λe=>h (ai e)
  have i:m≠0:=λe=>h (.inr (ai e))
  exact aAm neg a e m k w b g n i f (by omega) (by omega) j c
def aD3{a v:Nat}(e:a<4096)(d:v<16):bits BinOp.or Y ((a:Int)*16) (v:Int)=((a*16+v:Nat):Int):=by
 have c:a*16||| v=a*16+v:=nat_join 4 _ _ (by omega) (by omega)
 have b:(dx 32 ((a:Int)*16)).toNat=a*16:=by
  rw[show((a:Int)*16)=((a*16:Nat):Int) by omega];exact ofInt_u32 _ (by omega)
 show Y.wrap ((dx 32 ((a:Int)*16)||| BitVec.ofInt 32 (v:Int)).toNat:Int)=_
 rw[BitVec.toNat_or,b,ofInt_u32 v (by omega),c];simp only[ej,ek,em];simp;omega
def aIw(w:S)(b hi:Nat)(g h i j l m o p q r s t u:bx)(d:UInt8)(c:w.heap[b]?=U (N #[g,h,i,j,l,m,o,p,q,r,s,t,J Y hi,u] 228 (0,0)))(a:hexOf d=af):
 Z H 188 #[bz b,J bw d.toNat] w λe w'=>e=E (J O (if hi=0 then 92 else 93))/\w'=w:=by
 obtain⟨v,c1,c2,x,y,z,B,C,D,F,K,L,P,cd,T⟩:=aN c;have f:=A (pV d);rw[a]at f;clear c a
 by_cases c:hi=0
 .rw[if_pos c];subst c;go_enter cg,cj;go_wp2_with fail;refine(f.o _).mono ?_;rintro e w1 ⟨a,rfl⟩;unfold uR at a;simp only[]at a;subst a;go_wp2;go_ret;exact⟨rfl,rfl⟩
 .rw[if_neg c];obtain⟨-,W,-⟩:=lW (n:=hi) (k:=0) (by omega);clear c;go_enter cg,cj;go_wp2_with fail;refine(f.o _).mono ?_;rintro e w1 ⟨a,rfl⟩;unfold uR at a;simp only[]at a;subst a;go_wp2;go_ret;exact⟨rfl,rfl⟩
def aF7(w:S)(b dg a hi v:Nat)(t o q k r m l p u n s:bx)(d:UInt8)(h:w.heap[b]?=U (N #[t,o,q,k,r,m,l,p,u,n,dg,J Y a,J Y hi,s] 228 (0,0)))(i:hexOf d=U v)(c:eH hi dg a v=true):
 Z H 188 #[bz b,J bw d.toNat] w λe w'=>e=E (J O 93)/\w'=w:=by
 obtain⟨D,c1,c2,L,F,T,X,B,y,z,C,K,x,cd,P⟩:=aN h;have j:=A (pV d);rw[i]at j;have g:=A (zK w b dg a hi v _ _ _ _ _ _ _ _ _ _ _ h);rw[c]at g;have W:¬(v:Int)<0:=by omega
 clear h i c;go_enter cg,cj;go_wp2_with fail;refine(j.o _).mono ?_;rintro e w1 ⟨f,rfl⟩;unfold uR at f;simp only[]at f;subst f;go_wp2_with fail;refine(g.o).mono ?_;rintro e w1 ⟨rfl,rfl⟩;go_wp2;go_ret;exact⟨rfl,rfl⟩
def aF8(w:S)(b dg a hi v:Nat)(h i j l m n o q r s t:bx)(d:UInt8)(y:w.heap[b]?=U (N #[h,i,j,l,m,n,o,q,r,s,dg,J Y a,J Y hi,t] 228 (0,0)))(f:hexOf d=U v)(c:eH hi dg a v=ah)(g:a<4096)(z:dg<3):
 Z H 188 #[bz b,J bw d.toNat] w λe w'=>rZ w b 0 #[h,i,j,l,m,n,o,q,r,s,J O (dg+1:Nat),J Y (a*16+v:Nat),J Y hi,t] e w':=by
 obtain⟨C,c1,c2,D,F,K,L,P,T,W,X,cb,cc,cd,cf⟩:=aN y;have u:=A (pV d);rw[f]at u;have x:=A (zK w b dg a hi v _ _ _ _ _ _ _ _ _ _ _ y);rw[c]at x;have e1:¬(v:Int)<0:=by omega
 have B:=A (aD3 g (sL f));have a0:=A y;clear y f c;go_enter cg,cj;go_wp2_with fail;refine(u.o _).mono ?_;rintro e w1 ⟨c,rfl⟩;unfold uR at c;simp only[]at c;subst c;go_wp2_with fail;refine(x.o).mono ?_;rintro e w1 ⟨rfl,rfl⟩;go_wp2;go_ret;rw[B.o];exact⟨rfl,aB (aB a0.o _) _,((dy (λk=>k=b) w1).A3 (p:=⟨b,11,af⟩) (ai rfl) _).A3 (p:=⟨b,10,af⟩) (ai rfl) _⟩
def aBg(w:S)(b a:Nat):S:=(w.setCell ⟨b,11,af⟩ (J Y a)).setCell ⟨b,10,af⟩ (J O 4)
def aD4(w:S)(b a:Nat):Keeps (λk=>k=b) w (aBg w b a):=((dy (λk=>k=b) w).A3 (p:=⟨b,11,af⟩) (ai rfl) _).A3 (p:=⟨b,10,af⟩) (ai rfl) _
def aF9(w:S)(b a hi v:Nat)(l m n o p q r s t u x:bx)(d:UInt8)(B:Ending->S->Prop)(k:w.heap[b]?=U (N #[l,m,n,o,p,q,r,s,t,u,J O 3,J Y a,J Y hi,x] 228 (0,0)))(f:hexOf d=U v)(c:eH hi 3 a v=ah)(g:a<4096)
 (h:Z H 204 #[bz b] (aBg w b (a*16+v)) λe w'=>e=E (aw #[])/\B (E (J O 0)) w'):
 Z H 188 #[bz b,J bw d.toNat] w B:=by
 obtain⟨C,c1,c2,D,F,K,L,P,T,W,X,cb,cc,cd,cf⟩:=aN k;have i:=A (pV d);rw[f]at i;have j:=A (zK w b 3 a hi v _ _ _ _ _ _ _ _ _ _ _ k);rw[c]at j;have e1:¬(v:Int)<0:=by omega
 have y:=A (aD3 g (sL f));have a0:=A k;have z:=A h;clear k f c h;go_enter cg,cj;go_wp2_with fail;refine(i.o _).mono ?_;rintro e w1 ⟨c,rfl⟩;unfold uR at c;simp only[]at c;subst c;go_wp2_with fail;refine(j.o).mono ?_;rintro e w1 ⟨rfl,rfl⟩;go_wp2_with fail;rw[y.o];refine(z.o).mono ?_;rintro e w2 ⟨rfl,h⟩;have f:=A h;clear h;go_wp2_with fail;exact f.o
def aKA{w:S}{b c hi dg:Nat}{j i f e k l g n d m o:bx}(a:Nat)(h:w.heap[b]?=U (N #[j,i,f,e,k,l,g,n,d,m,dg,J Y c,J Y hi,o] 228 (0,0))):
 (aBg w b a).heap[b]?=U (N #[j,i,f,e,k,l,g,n,d,m,J O (4:Nat),J Y a,J Y hi,o] 228 (0,0)):=aB (aB h _) _
