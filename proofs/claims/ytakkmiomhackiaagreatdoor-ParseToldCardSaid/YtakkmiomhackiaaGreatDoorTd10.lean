/-
  The program, one part of its walk. Conditions: none.
-/
import Derived.Test.YtakkmiomhackiaaGreatDoorTd07
import Derived.Test.YtakkmiomhackiaaGreatDoorTd09
import Derived.Laws.IdiomStrings
import Derived.Laws.BytesArg
import Derived.Defers
import Derived.Recover
import Derived.Laws.Externs
import Derived.Laws.BitsAllLaws
set_option linter.all false
set_option maxRecDepth 100000
set_option maxHeartbeats 16000000
open Go.Proofs.Tryz
open Bool renaming false->E,true->au
open Go renaming Calls->Y,Ending->bw,Value->U,World->S,bodyPost_ret->du,cell_of_one->bp,free_of_one->dw,info_parts->dh,lt_of_block->bm,maxLen->cj,run_callFunc_extern->dv
open Go.Ending renaming returned->X
open Go.Extern.MathFloatBits renaming float64bits->eh,float64frombits->ei
open Go.FloatKind renaming f64->Z
open Go.Fn renaming func->bg
open Go.IntKind renaming i32->aw,i64->N,u64->az,u8->ak
open Go.Obj renaming cells->K
open Go.Proofs.Tryz renaming func168->bz,func262->cu,func264->cw,ntmps168->cg,ntmps262->cv,ntmps264->cz,prog->W,underlying22->bx,underlying5->dj,underlying9->dl
open Go.Proofs.YtakkmiomhackiaaGreatDoor.Keeps renaming A1->bs,A3->ao
open Go.Proofs.YtakkmiomhackiaaGreatDoor.Sz renaming C3->dt
open Go.RowKit renaming Below->bh
open Go.RowKit.Below renaming heap_alloc->ck,refl->bj
open Go.Value renaming agg->aj,bool->ah,float->ae,func->bc,iface->ac,int->I,nilIface->dq,pointer->av,slice->H,string->af,tuple->cr
open Ieee renaming double->ag,signed->ar
open Ieee.Datum renaming number->co,order->ba
open Ieee.Format renaming read->dx
open List renaming length_append->di
open Nat renaming le_refl->bk,le_trans->bu,lt_of_le_of_lt->dm,lt_of_lt_of_le->ct,shiftLeft_eq->dp
open Option renaming none->O,some->J
open Option.some renaming inj->dy,injEq->ee
open Or renaming inl->V,inr->ai
open UInt8.toNat renaming inj->ej
namespace Go.Proofs.YtakkmiomhackiaaGreatDoor
open Go.RowKit
def qP(w:S)(b:Nat)(no:Int)(c:Array U)(e:bw)(w':S):Prop:=e=X (I N no)/\w'.heap[b]?=J (K c 228 (0,0))/\Keeps (λk=>k=b) w w'
theorem aFW(w:S)(b:Nat)(x o s z t j i q y l r m v u:U)(a:UInt8)(h:w.heap[b]?=J (K #[x,o,s,z,t,j,i,q,y,l,r,m,v,u] 228 (0,0))):
 Y W 223 #[av (J ⟨b,0,O⟩),I ak ((a.toNat:Nat):Int)] w λe w'=>(a=92->qP w b 0 #[x,o,s,bc (bg 241) #[] #[],t,j,i,q,y,l,r,m,v,u] e w')/\(a≠92->e=X (I N 93)/\w'=w):=by
 obtain⟨-,-,-,C,-,-,-,-,-,-,-,-,-,-,D⟩:=aM h;have G:=L h;clear h
 by_cases d:a=92
 .have F:((a.toNat:Nat):Int)=92:=by rw[d];rfl
  have g:=L d;clear d;go_enter func223,ntmps223;go_wp2_with fail;go_ret;exact⟨λ_=>⟨rfl,aB G.o _,(ao (λk=>k=b) w).A2 (p:=⟨b,3,O⟩) (V rfl) _⟩,λf=>absurd g.o f⟩
 .obtain⟨-,-,B⟩:=aD (c:=a) (n:=92) d rfl;have g:=L d;clear d;go_enter func223,ntmps223;go_wp2_with fail;go_ret;exact⟨λA=>absurd A g.o,λ_=>⟨rfl,rfl⟩⟩
theorem aBw(w:S)(b:Nat)(v o r y s l j q x m u t:U)(dg f:Nat)(a:UInt8)(h:w.heap[b]?=J (K #[v,o,r,y,s,l,j,q,x,m,I N dg,I aw f,u,t] 228 (0,0))):
 Y W 241 #[av (J ⟨b,0,O⟩),I ak ((a.toNat:Nat):Int)] w λe w'=>(a=117->qP w b 0 #[v,o,r,bc (bg 188) #[] #[],s,l,j,q,x,m,I N 0,I aw 0,u,t] e w')/\(a≠117->e=X (I N 93)/\w'=w):=by
 obtain⟨-,-,-,D,-,-,-,-,-,-,B,C,-,-,F⟩:=aM h;have P:=L h;clear h
 by_cases d:a=117
 .have G:((a.toNat:Nat):Int)=117:=by rw[d];rfl
  have i:=L d;clear d;go_enter func241,ntmps241;go_wp2_with fail;go_ret;exact⟨λ_=>⟨rfl,aB (aB (aB P.o _) _) _,(((ao (λk=>k=b) w).A2 (p:=⟨b,10,O⟩) (V rfl) _).A2 (p:=⟨b,11,O⟩) (V rfl) _).A2 (p:=⟨b,3,O⟩) (V rfl) _⟩,λg=>absurd i.o g⟩
 .obtain⟨-,-,A⟩:=aD (c:=a) (n:=117) d rfl;have i:=L d;clear d;go_enter func241,ntmps241;go_wp2_with fail;go_ret;exact⟨λz=>absurd z i.o,λ_=>⟨rfl,rfl⟩⟩
theorem nF:Elem 22 5 1:=⟨bx,by
 have h:(W.info? 5).map (λi=>(i.zero,i.size,i.bytes))=J (J (I ak 0),1,1):=by kernel_rfl
 obtain⟨i,c,a,d,b⟩:=dh h;exact⟨i,_,c,a,d,b,rfl⟩⟩
def uJ(w:S)(b:Nat)(a:U)(l:List UInt8)(c:U->Array U)(e:bw)(w':S):Prop:=e=X (I N 0)/\∃g off cap,w'.heap[b]?=J (K (c (H (J ⟨g,off,O⟩) l.length cap)) 228 (0,0))/\
 Win 5 cC w' (H (J ⟨g,off,O⟩) l.length cap) l/\(a.ownBlock=J g\/w.heap.size<=g)/\Keeps (λk=>k=b\/a.ownBlock=J k) w w'
theorem aBy(w:S)(b:Nat)(z A B v3 C D G P Q R T vc vd a:U)(m d:UInt8)(l:List UInt8)(r:w.heap[b]?=J (K #[z,A,B,v3,C,D,G,P,Q,a,R,T,vc,vd] 228 (0,0)))
 (o:m≠117)(i:cO m=J d)(h:Win 5 cC w a l)(hl:l.length<=1073741824):
 Y W 168 #[av (J ⟨b,0,O⟩),I ak ((m.toNat:Nat):Int)] w λe w'=>uJ w b a (l++ [d]) (λv=> #[z,A,B,bc (bg 138) #[] #[],C,D,G,P,Q,v,R,T,vc,vd]) e w':=by
 obtain⟨c0,c1,c2,c3,c4,c5,c6,c7,c8,c9,ca,cb,cc,cd,cf⟩:=aM r;have s:=L (h.ne r (by decide));have a0:=L r;have t:=bm r;obtain⟨ta,tc,u⟩:=h.A8;have f:Win 5 cC (w.alloc (K #[cC d] 5)) a l:=h.A0 (F:=λ_=>False) ((ao _ w).A4 _) (λ_ _=>id);have HR:=L f;have HS:=L (aBx m);have j:=i;obtain⟨n1,n2,n3⟩:=aD (c:=m) (n:=117) o rfl;rw[i]at HS;clear r h f o i j;subst u;go_enter bz,cg;go_wp2_with fail;refine(HS.o _).mono ?_;rintro e w1 ⟨rfl,rfl⟩
 go_wp2_with (at_builtin;refine cW nF rfl _ _ rfl rfl HR.o ⟨w1.heap.size,0,O⟩ 1 d rfl ?_ rfl ?_ ?_ ?_)
 .simp
 .omega
 .unfold cj;omega
 intro g off cap w' f i j;have h:=(j.block b (by simp;omega) (λe=>s.o e.symm)).trans ((ck w1 _ _ t).trans a0.o);have x:=L (f.ne h (by decide));have o:(H ta l.length tc).ownBlock=J g\/w1.heap.size<=g:=i.elim V (λr=>ai (by have:=r.1;first|omega|(simp at this;omega)));have y:=L o;have HK:=L (((ao (λk=>k=b\/(H ta l.length tc).ownBlock=J k) w1).A4 (K #[cC d] 5)).F9 j (λk e=>V (ai e)));have q:=L f;obtain⟨-,-,-,d3,-,-,-,-,-,d9,-,-,-,-,df⟩:=aM h;have HB:=L h;clear h f o i j c0 c1 c2 c3 c4 c5 c6 c7 c8 c9 ca cb cc cd cf;go_wp2_with fail;go_ret;refine⟨rfl,g,off,cap,?_,?_,y.o,(HK.o.A2 (p:=⟨b,9,O⟩) (V (V rfl)) _).A2 (p:=⟨b,3,O⟩) (V (V rfl)) _⟩
 .rw[di];exact aB (aB HB.o _) _
 .rw[di];exact q.o.A0 (((ao (λk=>k=b) w').A2 (p:=⟨b,9,O⟩) (V rfl) _).A2 (p:=⟨b,3,O⟩) (V rfl) _) (λk e f=>x.o (e.trans (congrArg J f)))
theorem aHP(w:S)(b:Nat)(o g j r l d c i q f n m:U)(dg a:Nat)(h:w.heap[b]?=J (K #[o,g,j,r,l,d,c,i,q,f,I N dg,I aw a,n,m] 228 (0,0))):
 Y W 168 #[av (J ⟨b,0,O⟩),I ak 117] w λe w'=>qP w b 0 #[o,g,j,bc (bg 188) #[] #[],l,d,c,i,q,f,I N 0,I aw 0,n,m] e w':=by
 obtain⟨-,-,-,u,-,-,-,-,-,-,s,t,-,-,v⟩:=aM h;have x:=L h;clear h;go_enter bz,cg;go_wp2_with fail;go_ret;exact⟨rfl,aB (aB (aB x.o _) _) _,(((ao (λk=>k=b) w).A2 (p:=⟨b,10,O⟩) (V rfl) _).A2 (p:=⟨b,11,O⟩) (V rfl) _).A2 (p:=⟨b,3,O⟩) (V rfl) _⟩
theorem aDl(w:S)(b:Nat)(a:UInt8)(d:a≠117)(g:cO a=O):
 Y W 168 #[av (J ⟨b,0,O⟩),I ak ((a.toNat:Nat):Int)] w λe w'=>e=X (I N 92)/\w'=w:=by
 have f:=L (aBx a);obtain⟨h,i,j⟩:=aD (c:=a) (n:=117) d rfl;rw[g]at f;clear d g;go_enter bz,cg;go_wp2_with fail;refine(f.o _).mono ?_;rintro e w1 ⟨rfl,rfl⟩;go_wp2_with fail;go_ret;exact⟨rfl,rfl⟩
def bS:Tok->U
 | .mark a s=>ac 238 (aj #[I N a,I N 1,I ak ((s.toNat:Nat):Int)])
 | .term a n c=>ac 309 (aj #[I N a,I N n,af ⟨c.toArray⟩])
 | .num a n b=>ac 271 (aj #[I N a,I N n,I az b])
 | .str a n t=>ac 241 (aj #[I N a,I N n,af ⟨t.toArray⟩])
theorem fN{w:S}{n:Nat}{v:U}{T:TypeId}(h:n=w.heap.size):(w.alloc (K #[v] T)).cell? ⟨n,0,O⟩=J v:=by subst h;rw[aA (heap_alloc_new w _)];rfl
theorem aHQ(w:S)(p:Addr)(v:U):(w.setCell p v).heap.size=w.heap.size:=by simp[World.setCell]
theorem fH{w:S}{v:U}{l:List UInt8}(h:Win 5 cC w v l):(convert 22 9 v).run W w=.ok (af ⟨l.toArray⟩) w:=by
 rcases h with⟨rfl,rfl⟩|⟨g,off,cap,b,rfl,d,-,-,-,hi⟩
 .exact run_convert_bytes_nil (P:=W) w 22 5 bx dj 0 0 9 dl
 .refine run_convert_bytes_back w 22 9 5 ⟨g,off,O⟩ cap l bx dj dl λj c=>?_
  have a:(⟨g,off,O⟩:Addr).add j=⟨g,off+j,O⟩:=by unfold Addr.add;split<;>simp_all
  rw[a,aA d];exact hi j l[j] (List.getElem?_eq_getElem c)
def jF(w:S)(b:Nat)(a:U)(toks:List U)(t:U)(c:U->Array U)(v:U)(e:bw)(w':S):Prop:=e=X v/\∃g off cap,w'.heap[b]?=J (K (c (H (J ⟨g,off,O⟩) (toks.length+1) cap)) 228 (0,0))/\
 Win 232 id w' (H (J ⟨g,off,O⟩) (toks.length+1) cap) (toks++ [t])/\(a.ownBlock=J g\/w.heap.size<=g)/\Keeps (λk=>k=b\/a.ownBlock=J k) w w'
def gM(b:Nat):Prop:=b<=aJ\/(9223372036854775808<=b/\b<=9223372036854775808+aJ)
theorem nH{b:Nat}(h:b%9223372036854775808<=aJ):∃m i:Nat,m<9007199254740992/\i<=2045/\(m=0<->b%9223372036854775808=0)/\ag.read b=co (b/9223372036854775808%2==1) m (-1074+i):=by
 have c:ag.signWeight=9223372036854775808:=by decide
 have f:ag.binade=4503599627370496:=by decide
 have d:ag.infRung=9218868437227405312:=by decide
 have e:ag.leastPlace= -1074:=by decide
 unfold aJ at h;unfold dx;simp only[c,f,d,e];generalize b%9223372036854775808=r at*
 by_cases a:r<4503599627370496
 .rw[if_pos a];exact⟨r,0,by omega,by omega,Iff.rfl,by simp⟩
 .rw[if_neg a,if_pos (by omega)];exact⟨4503599627370496+r%4503599627370496,r/4503599627370496-1,by omega,by omega,by omega,rfl⟩
theorem aDm{b:Nat}(h:b%9223372036854775808<=aJ):Z.format.order b b=J .eq:=by
 obtain⟨m,i,_,_,_,a⟩:=nH h
 show ba (ag.read b) (ag.read b)=_
 rw[a];simp[ba]
theorem aDn{b:Nat}(h:b<=aJ):Z.format.order b aJ≠J .gt:=by
 have k:b%9223372036854775808=b:=Nat.mod_eq_of_lt (dm h (by decide));obtain⟨m,i,o,hi,_,d⟩:=nH (b:=b) (by rw[k];exact h)
 have l:(b/9223372036854775808%2==1)=E:=by
  have:b/9223372036854775808=0:=Nat.div_eq_of_lt (dm h (by decide));rw[this];rfl
 rw[l]at d;have a:ag.read aJ=co E 9007199254740991 (-1074+2045):=by decide
 show ba (ag.read b) (ag.read aJ)≠_
 rw[d,a];have c:min (-1074+(i:Int)) (-1074+2045)= -1074+(i:Int):=by omega
 simp only[ba,c];have e:((-1074+(i:Int))-(-1074+(i:Int))).toNat=0:=by omega
 have g:((-1074+2045:Int)-(-1074+(i:Int))).toNat=2045-i:=by omega
 rw[e,g]
 have j:ar E m 0<=ar E 9007199254740991 (2045-i):=by
  simp only[ar,dp];have:1<=2^(2045-i):=Nat.one_le_two_pow;have f:m*2^0<=9007199254740991*2^(2045-i):=by simp;omega
  rw[if_neg (by decide),if_neg (by decide)]
  exact_mod_cast f
 intro n;have:=dy n;rw[Int.compare_eq_gt]at this;omega
theorem aDo{b:Nat}(h:b%9223372036854775808<=aJ):(Z.format.order b 0==J .eq)=decide (b%9223372036854775808=0):=by
 obtain⟨m,i,w,hi,l,r⟩:=nH h;have n:ag.read 0=co E 0 (-1074):=by decide
 show(ba (ag.read b) (ag.read 0)==J .eq)=_
 rw[r,n];have c:min (-1074+(i:Int)) (-1074)= -1074:=by omega
 simp only[ba,c];have t:((-1074+(i:Int))-(-1074)).toNat=i:=by omega
 have q:((-1074:Int)-(-1074)).toNat=0:=by omega
 rw[t,q];have p:ar E 0 0=0:=by decide
 rw[p];have v:0<2^i:=Nat.two_pow_pos i
 have j:ar (b/9223372036854775808%2==1) m i=0<->m=0:=by
  simp only[ar,dp];constructor
  .intro h
   have s:((m*2^i:Nat):Int)=0:=by
    split at h
    .omega
    .exact h
   have o:m*2^i=0:=by exact_mod_cast s
   rcases Nat.mul_eq_zero.1 o with k|k
   .exact k
   .omega
  .intro h;subst h;simp
 by_cases a:m=0
 .have d:b%9223372036854775808=0:=l.1 a;rw[j.2 a,d];decide
 .have d:¬b%9223372036854775808=0:=λe=>a (l.2 e)
  have f:ar (b/9223372036854775808%2==1) m i≠0:=λe=>a (j.1 e)
  have u:compare (ar (b/9223372036854775808%2==1) m i) 0≠ .eq:=λe=>f (Int.compare_eq_eq.1 e)
  rw[decide_eq_false d];cases g:compare (ar (b/9223372036854775808%2==1) m i) 0 with
  | eq=>exact absurd g u
  | lt=>decide
  | gt=>decide
theorem lR{l:List UInt8}{b:Nat}(h:bitsOf l=J b):gM b:=by
 unfold bitsOf at h;cases a:bG l with
 | none=>rw[a]at h;cases h
 | some t=>
  rw[a]at h;simp only[Option.bind_some]at h;unfold cD at h;split at h
  .cases h
  .rename_i c;simp only[ee]at h;subst h;unfold gM;split
   .right;omega
   .left;omega
theorem qQ:Elem 184 97 16:=⟨underlying184,by
 have h:(W.info? 97).map (λi=>(i.zero,i.size,i.bytes))=J (J dq,1,16):=by kernel_rfl
 obtain⟨i,c,a,d,b⟩:=dh h;exact⟨i,_,c,a,d,b,rfl⟩⟩
theorem dQ(w:S)(no:Nat):Y W 212 #[ah au,I N no] w λe w'=>e=X (cr #[])/\w'=w:=by
 go_enter func212,ntmps212;go_wp2
 go_end0
 exact⟨rfl,rfl⟩
theorem uW(w:S)(no:Nat):Y W 212 #[ah E,I N no] w λe w'=>e=.panicked [{v:=ac 29 (I N no),recovered:=E}]/\w'=w:=by
 go_enter func212,ntmps212;go_wp2;exact⟨rfl,rfl,rfl⟩
theorem kI(w:S)(n a d:Nat)(h:(⟨n,a,d⟩:Sz).C3=au):Y W 235 #[aj #[I N n,I N a,I N d]] w λe w'=>e=X (ah au)/\bh w.heap.size w w':=by
 have b:(n:Int)<=65536/\(a:Int)<=2097152/\(d:Int)<=512:=by simp[dt]at h;omega
 obtain⟨b,c,f⟩:=b;clear h;go_enter func235,ntmps235;go_wp2;go_ret;exact⟨rfl,(bj _ _).alloc (bk _) _⟩
theorem yY(w:S)(b:Nat):Y W 347 #[ae Z b] w λe w'=>e=X (aj #[I N 1,I N 0,I N 1])/\bh w.heap.size w w':=by
 go_enter func347,ntmps347;go_wp2;exact du (v:=aj #[I N 1,I N 0,I N 1]) (by simp[results,results347,go_sem]) rfl ⟨rfl,(bj _ _).alloc (bk _) _⟩
theorem uX(w:S)(s:ByteArray):Y W 349 #[af s] w λe w'=>e=X (aj #[I N 1,I N s.size,I N 1])/\bh w.heap.size w w':=by
 go_enter func349,ntmps349;go_wp2;exact du (v:=aj #[I N 1,I N s.size,I N 1]) (by simp[results,results349,go_sem]) rfl ⟨rfl,(bj _ _).alloc (bk _) _⟩
theorem aHR(w:S)(b:Nat):Y W 213 #[aj #[I N 3,ah E,I az b,af ⟨#[]⟩,I N 0,H O 0 0]] w λe w'=>e=X (ah au)/\bh w.heap.size w w':=by
 have a:(((b:Nat):Int)==0)=au\/(((b:Nat):Int)==0)=E:=by cases h:(((b:Nat):Int)==0)<;>simp
 rcases a with a|a
 all_goals
  go_enter func213,ntmps213;go_wp2;go_ret;exact⟨rfl,(bj _ _).alloc (bk _) _⟩
theorem aFX(w:S)(s:ByteArray):Y W 213 #[aj #[I N 4,ah E,I az 0,af s,I N 0,H O 0 0]] w λe w'=>e=X (ah au)/\bh w.heap.size w w':=by
 go_enter func213,ntmps213;go_wp2
 all_goals
  go_ret;exact⟨rfl,(bj _ _).alloc (bk _) _⟩
theorem nI(b:Nat)(w:S):(callFunc 51 #[ae Z b]).run W w=.ok (.value (I az b)) w:=by
 rw[dv (e:=eh) func51 (by kernel_rfl) (by kernel_rfl) (by kernel_rfl) (by kernel_rfl)];rfl
theorem nJ(b:Nat)(w:S):(callFunc 215 #[I az b]).run W w=.ok (.value (ae Z b)) w:=by
 rw[dv (e:=ei) func215 (by kernel_rfl) (by kernel_rfl) (by kernel_rfl) (by kernel_rfl)];rfl
theorem pB{b:Nat}(h:gM b):b%9223372036854775808<=aJ:=by
 unfold gM aJ at*;omega
theorem aFY(b:Nat)(w:S)(h:gM b):Y W 216 #[ae Z b] w λe w'=>e=X (ah E)/\w'=w:=by
 have a:(Z.format.order b b !=J .eq)=E:=by rw[aDm (pB h)];rfl
 clear h;go_enter func216,ntmps216;go_wp2;go_ret;exact⟨rfl,rfl⟩
theorem aDp{b:Nat}(h:b<18446744073709551616):bits BinOp.andNot az (b:Int) 9223372036854775808=(b:Int)%9223372036854775808:=by
 have e:=u64_andNot_nat b 9223372036854775808 h (by decide);rw[show(18446744073709551615-9223372036854775808:Nat)=2^63-1 by decide,Nat.and_two_pow_sub_one_eq_mod]at e;exact e
theorem aJK(b:Nat)(w:S)(h:gM b):Y W 236 #[ae Z b] w λe w'=>e=X (ae Z (b%9223372036854775808))/\w'=w:=by
 have c:=nI b;have a:=nJ (b%9223372036854775808);have d:=aDp (b:=b) (by unfold gM aJ at h;omega);rw[show((b%9223372036854775808:Nat):Int)=(b:Int)%9223372036854775808 by omega]at a;clear h;go_enter func236,ntmps236;go_wp2;go_ret;exact⟨rfl,rfl⟩
theorem aFZ(b:Nat)(w:S)(h:gM b):Y W 217 #[ae Z b,I N 0] w λe w'=>e=X (ah E)/\w'=w:=by
 have f:=L (aJK b w h);have c:=aDn (b:=b%9223372036854775808) (pB h);obtain⟨a,d⟩:∃a,b%9223372036854775808=a:=⟨_,rfl⟩;rw[d]at f c
 have g:(Z.format.order a 9218868437227405311==J .gt)=E:=by
  cases h:Z.format.order a 9218868437227405311==J .gt with
  | false=>rfl
  | true=>exact absurd (by simpa[aJ]using h) c
 clear h d c;go_enter func217,ntmps217;go_wp2_with fail;refine(f.o).mono ?_;rintro e w1 ⟨rfl,rfl⟩;go_wp2_with fail;go_ret;exact⟨rfl,rfl⟩
def eS(w:S)(b:Nat)(c:U)(a:List U)(T:TypeId)(v:U)(w':S):Prop:=
 ∃g off cap,w'.heap[b]?=J (K #[H (J ⟨g,off,O⟩) (a.length+1) cap] 195 (0,0))/\Win 97 id w' (H (J ⟨g,off,O⟩) (a.length+1) cap) (a++ [ac T v])/\(c.ownBlock=J g\/w.heap.size<=g)/\Keeps (λk=>k=b\/c.ownBlock=J k) w w'
theorem aJL(w:S)(b:Nat)(A:U)(a:List U)(x:Nat)(y:w.heap[b]?=J (K #[A] 195 (0,0)))(c:Win 97 id w A a)(T:a.length<=1048576):
 Y W 214 #[av (J ⟨b,0,O⟩),ac 179 (ae Z x)] w λe w'=>e=X (cr #[])/\eS w b A a 179 (ae Z x) w':=by
 have hm:∀w:S,(method 565 179 (ae Z x) "affidavit/node.sized").run W w=.ok (347,ae Z x) w:=λ_=>by kernel_rfl
 have B:=L (yY w x);have C:=L (λw=>kI w 1 0 1 (by decide));have D:=L c;have a0:=L y;have l:=L (c.ne y (by decide));obtain⟨m,n,o⟩:=c.A8;clear y c;subst o;go_enter func214,ntmps214;go_wp2_with fail;refine(B.o).mono ?_;rintro e w1 ⟨rfl,c⟩;have q:=L c;clear c;go_wp2_with fail;refine(C.o _).mono ?_;rintro e w2 ⟨rfl,c⟩;have f:=chain q.o c;have h:=keep a0.o f;have r:=bp h;have s:=L h;have z:=L f;have i:=bm h;have d:Win 97 id (w2.alloc (K #[ac 179 (ae Z x)] 97)) (H m a.length n) a:=(D.o.A0 (bs (λ_=>False) f) (λ_ _=>id)).A0 (F:=λ_=>False) ((ao _ w2).A4 _) (λ_ _=>id);have G:=L d;clear c f h d
 go_wp2_with (at_builtin;refine cW qQ rfl _ _ rfl rfl G.o ⟨w2.heap.size,0,O⟩ 1 (ac 179 (ae Z x)) rfl ?_ rfl ?_ ?_ ?_)
 .exact fN rfl
 .omega
 .unfold cj;omega
 intro g off cap w' c f h;have d:=(h.block b (by simp;omega) (λe=>l.o e.symm)).trans ((ck w2 _ _ i).trans s.o);have t:=L (c.ne d (by decide));have u:=L (show(H m a.length n).ownBlock=J g\/w.heap.size<=g from f.elim V (λy=>ai (bu z.o.size (bu (by simp) y.1))));have P:=L (((bs (λk=>k=b\/(H m a.length n).ownBlock=J k) z.o).A4 (K #[ac 179 (ae Z x)] 97)).F9 h (λk e=>V (ai e)));have j:=L c;have Q:=bp d;have R:=dw d;have v:=L d;clear d c f h r;go_wp2_with fail
 go_end0
 have c:Keeps (λk=>k=b) w' (w'.setCell ⟨b,0,O⟩ (H (J ⟨g,off,O⟩) (a.length+1) cap)):=(ao (λk=>k=b) w').A2 (p:=⟨b,0,O⟩) (V rfl) _;exact⟨rfl,g,off,cap,aB v.o _,j.o.A0 c (λk e d=>t.o (e.trans (congrArg J d))),u.o,P.o.A2 (p:=⟨b,0,O⟩) (V (V rfl)) _⟩
theorem aHS(w:S)(b:Nat)(A:U)(a:List U)(x:ByteArray)(T:x.size<=2097152)(y:w.heap[b]?=J (K #[A] 195 (0,0)))(c:Win 97 id w A a)(hl:a.length<=1048576):
 Y W 214 #[av (J ⟨b,0,O⟩),ac 180 (af x)] w λe w'=>e=X (cr #[])/\eS w b A a 180 (af x) w':=by
 have hm:∀w:S,(method 565 180 (af x) "affidavit/node.sized").run W w=.ok (349,af x) w:=λ_=>by kernel_rfl
 have B:=L (uX w x);have C:=L (λw=>kI w 1 x.size 1 (by simp[dt];omega));have D:=L c;have a0:=L y;have l:=L (c.ne y (by decide));obtain⟨m,n,o⟩:=c.A8;clear y c;subst o;go_enter func214,ntmps214;go_wp2_with fail;refine(B.o).mono ?_;rintro e w1 ⟨rfl,c⟩;have q:=L c;clear c;go_wp2_with fail;refine(C.o _).mono ?_;rintro e w2 ⟨rfl,c⟩;have f:=chain q.o c;have h:=keep a0.o f;have r:=bp h;have s:=L h;have z:=L f;have i:=bm h;have d:Win 97 id (w2.alloc (K #[ac 180 (af x)] 97)) (H m a.length n) a:=(D.o.A0 (bs (λ_=>False) f) (λ_ _=>id)).A0 (F:=λ_=>False) ((ao _ w2).A4 _) (λ_ _=>id);have G:=L d;clear c f h d
 go_wp2_with (at_builtin;refine cW qQ rfl _ _ rfl rfl G.o ⟨w2.heap.size,0,O⟩ 1 (ac 180 (af x)) rfl ?_ rfl ?_ ?_ ?_)
 .exact fN rfl
 .omega
 .unfold cj;omega
 intro g off cap w' c f h;have d:=(h.block b (by simp;omega) (λe=>l.o e.symm)).trans ((ck w2 _ _ i).trans s.o);have t:=L (c.ne d (by decide));have u:=L (show(H m a.length n).ownBlock=J g\/w.heap.size<=g from f.elim V (λy=>ai (bu z.o.size (bu (by simp) y.1))));have P:=L (((bs (λk=>k=b\/(H m a.length n).ownBlock=J k) z.o).A4 (K #[ac 180 (af x)] 97)).F9 h (λk e=>V (ai e)));have j:=L c;have Q:=bp d;have R:=dw d;have v:=L d;clear d c f h r;go_wp2_with fail
 go_end0
 have c:Keeps (λk=>k=b) w' (w'.setCell ⟨b,0,O⟩ (H (J ⟨g,off,O⟩) (a.length+1) cap)):=(ao (λk=>k=b) w').A2 (p:=⟨b,0,O⟩) (V rfl) _;exact⟨rfl,g,off,cap,aB v.o _,j.o.A0 c (λk e d=>t.o (e.trans (congrArg J d))),u.o,P.o.A2 (p:=⟨b,0,O⟩) (V (V rfl)) _⟩
section
def pC:St->Nat
 | .outside=>104| .letter=>141| .numeral=>139| .within=>138| .escape=>168| .digit=>188| .slash=>223| .letterU=>241
def dF:St->Bool
 | .within| .escape| .digit| .slash| .letterU=>au
 | _=>E
def fC{a:Type}(F:Nat->Prop)(e:Nat)(enc:a->U)(w:S)(v:U)(l:List a):Prop:=Win e enc w v l/\∀k,v.ownBlock=J k->F k
theorem Win.lt{d:Type}{e:Nat}{enc:d->U}{w:S}{v:U}{l:List d}(h:Win e enc w v l){k:Nat}(a:v.ownBlock=J k):k<w.heap.size:=by
 rcases h with⟨rfl,_⟩|⟨g,off,cap,b,rfl,c,_⟩
 .cases a
 .cases a;exact bm c
section
variable {α:Type} {F G:Nat->Prop} {e:Nat} {enc:α->U} {w w':S} {v:U} {l:List α}
theorem fC.E0(F:Nat->Prop)(e:Nat)(enc:α->U)(w:S):fC F e enc w (H O 0 0) []:=⟨.E0 _ _ _,λ_ h=>by cases h⟩
theorem fC.A6(h:fC F e enc w v l)(a:∀k,F k->G k):fC G e enc w v l:=⟨h.1,λk b=>a k (h.2 k b)⟩
theorem fC.A0(h:fC F e enc w v l)(a:Keeps G w w')(b:∀k,v.ownBlock=J k->¬G k):fC (Since F w w') e enc w' v l:=⟨h.1.A0 a b,λk a=>V (h.2 k a)⟩
end
structure aAx(F:Nat->Prop)(w:S)(x:Lx)(rawV chV saysV:U):Prop where
 raw:x.st=.letter\/x.st=.numeral->fC F 5 cC w rawV x.raw
 text:dF x.st=au->fC F 5 cC w saysV x.says/\∃f pl,chV=av (J ⟨f,0,O⟩)/\Feeds w f pl x.held/\F f/\pl<=x.says.length
def cE(F:Nat->Prop)(w:S)(b:Nat)(x:Lx)(f:Bool)(toks:List Tok):Prop:=
 F b/\(∀k,F k->k<w.heap.size)/\∃d e a c,w.heap[b]?=J (K #[I N x.place,dq,ah f,bc (bg (pC x.st)) #[] #[],ah x.isIn,I N x.start,d,I N x.number,e,a,I N x.digits,I aw x.code,I aw x.high,c] 228 (0,0))/\
  fC F 232 id w c (toks.map bS)/\aAx F w x d e a
def dR(F:Nat->Prop)(w:S)(b pl st:Nat)(c:U)(toks:List Tok):Prop:=
 F b/\(∀k,F k->k<w.heap.size)/\∃i d l e h n f j g m a,w.heap[b]?=J (K #[I N pl,c,i,d,l,I N st,e,h,n,f,j,g,m,a] 228 (0,0))/\fC F 232 id w a (toks.map bS)
section
variable {F G:Nat->Prop} {w w':S} {b:Nat} {x:Lx} {rawV chV saysV:U} {dn:Bool} {toks:List Tok}
theorem aAx.A6(h:aAx F w x rawV chV saysV)(a:∀k,F k->G k):aAx G w x rawV chV saysV:=
 ⟨λb=>(h.raw b).A6 a,λb=>by obtain⟨e,f,pl,c,i,d,g⟩:=h.text b;exact⟨e.A6 a,f,pl,c,i,a _ d,g⟩⟩
theorem aAx.B6(h:aAx F w x rawV chV saysV)(c:Keeps G w w')(b:∀k,F k->¬G k):aAx F w' x rawV chV saysV:=
 ⟨λa=>⟨(h.raw a).1.A0 c λk e=>b k ((h.raw a).2 k e),(h.raw a).2⟩,λa=>by
  obtain⟨d,f,pl,i,l,g,j⟩:=h.text a;exact⟨⟨d.1.A0 c λk e=>b k (d.2 k e),d.2⟩,f,pl,i,l.A0 c (b f g),g,j⟩⟩
theorem cE.B6(h:cE F w b x dn toks)(f:Keeps G w w')(g:∀k,F k->¬G k):cE F w' b x dn toks:=by
 obtain⟨n,i,d,l,a,c,o,m,p⟩:=h;exact⟨n,λk j=>ct (i k j) f.size,d,l,a,c,f.C4 o (g b n),⟨m.1.A0 f λk e=>g k (m.2 k e),m.2⟩,p.B6 f g⟩
theorem dR.B6{pl st:Nat}{a:U}(h:dR F w b pl st a toks)(f:Keeps G w w')(j:∀k,F k->¬G k):dR F w' b pl st a toks:=by
 obtain⟨l,d,s,m,u,n,r,x,o,t,q,v,c,p,i⟩:=h;exact⟨l,λk g=>ct (d k g) f.size,s,m,u,n,r,x,o,t,q,v,c,f.C4 p (j b l),⟨i.1.A0 f λk e=>j k (i.2 k e),i.2⟩⟩
theorem aF(a:∀k,F k->k<w.heap.size)(c:w.heap.size<=w'.heap.size):∀k,Since F w w' k->k<w'.heap.size:=λk b=>b.elim (λh=>ct (a k h) c) (λh=>h.2)
end
end
def aW(x:UInt8):Nat:=if x.toNat<238 then x.toNat else if x.toNat<240 then x.toNat+16 else x.toNat-2
theorem aF5{x y:UInt8}(h:aW x=aW y):x=y:=by
 have b:=x.toNat_lt;have a:=y.toNat_lt;unfold aW at h;apply ej;split at h<;>split at h<;>(try split at h)<;>(try split at h)<;>omega
def eA:List UInt8->List UInt8->Int
 | [],[]=>0
 | [],_::_=> -1
 | _::_,[]=>1
 | x::a,y::b=>if x=y then eA a b else if aW x<aW y then -1 else 1
theorem kS:∀x y:List UInt8,eA x y= -1\/eA x y=0\/eA x y=1
 | [],[]=>ai (V rfl)
 | [],_::_=>V rfl
 | _::_,[]=>ai (ai rfl)
 | x::c,y::b=>by
  unfold eA
  by_cases h:x=y
  .rw[if_pos h];exact kS c b
  .rw[if_neg h]
   by_cases a:aW x<aW y
   .rw[if_pos a];exact V rfl
   .rw[if_neg a];exact ai (ai rfl)
theorem zA:∀x:List UInt8,eA x x=0
 | []=>rfl
 | x::a=>by unfold eA;rw[if_pos rfl];exact zA a
theorem qS:∀{x y:List UInt8},eA x y=0->x=y
 | [],[],_=>rfl
 | [],_::_,h=>by simp[eA]at h
 | _::_,[],h=>by simp[eA]at h
 | x::c,y::b,h=>by
  unfold eA at h
  by_cases e:x=y
  .rw[if_pos e]at h;rw[e,qS h]
  .rw[if_neg e]at h
   by_cases a:aW x<aW y
   .rw[if_pos a]at h;cases h
   .rw[if_neg a]at h;cases h
theorem kJ:∀x y:List UInt8,eA x y= -eA y x
 | [],[]=>rfl
 | [],_::_=>rfl
 | _::_,[]=>rfl
 | x::d,y::b=>by
  unfold eA
  by_cases e:x=y
  .rw[if_pos e,if_pos e.symm];exact kJ d b
  .have f:¬y=x:=λh=>e h.symm
   rw[if_neg e,if_neg f];have c:aW x≠aW y:=λh=>e (aF5 h)
   by_cases a:aW x<aW y
   .rw[if_pos a,if_neg (by omega)]
   .rw[if_neg a,if_pos (by omega)];decide
theorem mK:∀{x y z:List UInt8},eA x y<0->eA y z<0->eA x z<0
 | [],[],_,h,_=>by simp[eA]at h
 | [],_::_,[],_,h=>by simp[eA]at h
 | [],_::_,_::_,_,_=>by simp[eA]
 | _::_,[],_,h,_=>by simp[eA]at h
 | _::_,_::_,[],_,h=>by simp[eA]at h
 | x::k,y::i,z::l,b,a=>by
  unfold eA at b a⊢
  by_cases d:x=y
  .subst d;rw[if_pos rfl]at b
   by_cases c:x=z
   .rw[if_pos c]at a⊢;exact mK b a
   .rw[if_neg c]at a⊢;exact a
  .rw[if_neg d]at b
   have g:aW x<aW y:=by
    by_cases h:aW x<aW y
    .exact h
    .rw[if_neg h]at b;omega
   by_cases c:y=z
   .subst c;rw[if_neg d,if_pos g];decide
   .rw[if_neg c]at a
    have j:aW y<aW z:=by
     by_cases h:aW y<aW z
     .exact h
     .rw[if_neg h]at a;omega
    have f:x≠z:=λe=>by subst e;omega
    rw[if_neg f,if_pos (by omega)];decide
theorem aDr{x y:List UInt8}(b:¬eA x y<0)(a:¬eA y x<0):x=y:=by
 rcases kS x y with h|h|h
 .omega
 .exact qS h
 .have:=kJ x y;omega
abbrev xW:={l:List UInt8 //aT l=au/\l.length<=2097152}
instance:Inhabited xW:=⟨⟨[],by decide⟩⟩
theorem aBz(x:UInt8)(w:S):Y W 263 #[I ak ((x.toNat:Nat):Int)] w λe w'=>e=X (ah (decide (240<=x.toNat)))/\w'=w:=by
 obtain⟨n,b⟩:∃n,x.toNat=n:=⟨_,rfl⟩;rw[b]
 by_cases h:240<=n
 .have a:(240:Int)<=(n:Int):=by omega
  rw[decide_eq_true h];go_enter func263,ntmps263;go_wp2;go_ret;exact⟨rfl,rfl⟩
 .have a:¬(240:Int)<=(n:Int):=by omega
  rw[decide_eq_false h];go_enter func263,ntmps263;go_wp2;go_ret;exact⟨rfl,rfl⟩
def aBA(x y:Int):Int:=if x<y then -1 else if y<x then 1 else 0
theorem vC(x y:Int)(w:S):Y W 262 #[I N x,I N y] w λe w'=>e=X (I N (aBA x y))/\w'=w:=by
 unfold aBA
 by_cases h:x<y
 .rw[if_pos h];go_enter cu,cv;go_wp2;go_ret;exact⟨rfl,rfl⟩
 .rw[if_neg h]
  by_cases a:y<x
  .rw[if_pos a];go_enter cu,cv;go_wp2;go_ret;exact⟨rfl,rfl⟩
  .rw[if_neg a];go_enter cu,cv;go_wp2;go_ret;exact⟨rfl,rfl⟩
theorem iE(x y:Int)(w:S):Y W 264 #[I ak x,I ak y] w λe w'=>e=X (I N (aBA x y))/\w'=w:=by
 unfold aBA
 by_cases h:x<y
 .rw[if_pos h];go_enter cw,cz;go_wp2;go_ret;exact⟨rfl,rfl⟩
 .rw[if_neg h]
  by_cases a:y<x
  .rw[if_pos a];go_enter cw,cz;go_wp2;go_ret;exact⟨rfl,rfl⟩
  .rw[if_neg a];go_enter cw,cz;go_wp2;go_ret;exact⟨rfl,rfl⟩
end Go.Proofs.YtakkmiomhackiaaGreatDoor
