/-
  The program, one part of its walk. Conditions: none.
-/
import Derived.Test.YtakkmiomhackiaaGreatDoorTd37
set_option linter.all false
set_option maxRecDepth 100000
set_option maxHeartbeats 16000000
open Go.Proofs.Tryz
open Bool renaming false->W,true->V
open ByteArray renaming getElem_eq_getElem_data->dy,size->dx
open Go renaming Calls->ac,Ending->bp,Value->X,World->Z,lt_of_block->dl
open Go.Ending renaming returned->af
open Go.Fn renaming func->bc
open Go.IntKind renaming i32->ao,i64->S,u8->ah
open Go.Obj renaming cells->ai
open Go.Proofs.Tryz renaming func141->ct,func78->bz,ntmps141->cu,ntmps78->cg,prog->ae
open Go.Proofs.YtakkmiomhackiaaGreatDoor.Keeps renaming A1->bg,A3->D
open Go.Proofs.YtakkmiomhackiaaGreatDoor.Lx renaming B4->av,C0->bw,C6->bx,F3->cj
open Go.Proofs.YtakkmiomhackiaaGreatDoor.St renaming digit->cw,numeral->cv,within->cz
open Go.Proofs.YtakkmiomhackiaaGreatDoor.Tok renaming num->bh,term->bu
open Go.Proofs.YtakkmiomhackiaaGreatDoor.eQ renaming I1->ak,M2->ar
open Go.RowKit.Below renaming heap_alloc->dm
open Go.Value renaming bool->H,func->ba,int->O,nilIface->au,pointer->aj,slice->Y,string->cr
open Go.World renaming setCell->bj
open List renaming append_assoc->dq,append_nil->E,getElem?_eq_getElem->bm,length_append->dp,length_cons->bk,length_drop->co,length_take->di,map_append->du,map_cons->dv,map_nil->dw,merge->dh,pairwise_map->dj,singleton_append->dt,size_toArray->bs,take_append_drop->ck
open Nat renaming le_refl->az,le_trans->Q,zero_le->aw
open Option renaming none->J,some->I
open Or renaming inl->U,inr->ag
namespace Go.Proofs.YtakkmiomhackiaaGreatDoor
open Go.RowKit
theorem vR(h:UInt8):∀(m:Nat)(b l:List UInt8),(aC h).wide=(h::b).length+(m+1)->aP (h::b) l=I []->
 cS (aC h) (m+1) (h::b).length l=.ok ((h::b).length+(m+1))/\aP [] (l.drop (m+1))=I []/\m+1<=l.length
 | m,b,[],_,d=>by cases d
 | m,b,c::t,g,d=>by
  rw[cA]at d;have a:aK (h::b) c=if(aC h).D5 (h::b).length c then(if(h::b).length+1=(aC h).wide then I []else I ((h::b)++ [c]))else J:=rfl
  rw[cS]
  by_cases f:(aC h).D5 (h::b).length c=V
  .rw[if_pos f]at a⊢;cases m with
   | zero=>
    rw[if_pos (by omega)]at a;rw[a]at d;rw[cS];exact⟨rfl,d,by simp⟩
   | succ m=>
    rw[if_neg (by omega)]at a;rw[a]at d;have e:=vR h m (b++ [c]) t (by simp at g⊢;omega) d;have i:(h::(b++ [c])).length=(h::b).length+1:=by simp
    rw[i]at e;refine⟨?_,e.2.1,by rw[bk];omega⟩;rw[e.1];congr 1;omega
  .rw[if_neg f]at a;rw[a]at d;cases d
theorem iH{c:UInt8}{t:List UInt8}(d:aT (c::t)=V):∃n,fD (c::t)=.ok (n+1)/\aT (t.drop n)=V/\n<=t.length:=by
 have b:aP [] (c::t)=I []:=by
  unfold aT at d;exact eq_of_beq d
 rw[cA]at b;unfold fD;simp only;have a:aK [] c=if(aC c).wide=0 then J else if 1<(aC c).wide then I [c]else I []:=rfl
 by_cases f:(aC c).wide=0
 .rw[if_pos f]at a;rw[a]at b;cases b
 .rw[if_neg f]at a⊢
  by_cases e:1<(aC c).wide
  .rw[if_pos e]at a;rw[a]at b;obtain⟨m,g⟩:∃m,(aC c).wide=1+(m+1):=⟨(aC c).wide-2,by omega⟩;obtain⟨g1,h,i⟩:=vR c m [] t g b;refine⟨m+1,?_,?_,i⟩
   .rw[show(aC c).wide-1=m+1 by omega];have g1:cS (aC c) (m+1) 1 t=.ok (1+(m+1)):=g1;rw[g1,Nat.add_comm 1]
   .unfold aT;rw[h];rfl
  .rw[if_neg e]at a;rw[a]at b;refine⟨0,?_,?_,aw _⟩
   .rw[show(aC c).wide-1=0 by omega,cS]
   .unfold aT;have b:aP [] t=I []:=b;rw[List.drop_zero,b];rfl
def gE(l:List UInt8):List Nat:=match l with
 | []=> []
 | c::t=>match fD (c::t)with
  | .ok n=>dB (bK ((c::t).take n))++gE (t.drop (n-1))
  | _=> []
termination_by l.length
decreasing_by simp_wf;omega
theorem lI:gE []= []:=by rw[gE]
theorem iP{c:UInt8}{t:List UInt8}{n:Nat}(h:fD (c::t)=.ok (n+1)):gE (c::t)=dB (bK ((c::t).take (n+1)))++gE (t.drop n):=by
 rw[gE,h];rfl
theorem aBV(n:Nat):∃x u,dB n=x::u:=by unfold dB;split<;>exact⟨_,_,rfl⟩
theorem zI:∀(N:Nat)(a b:List UInt8),a.length<=N->aT a=V->aT b=V->cmpL (gE a) (gE b)=eA a b
 | _,[],[],_,_,_=>by rw[lI];rfl
 | _,[],y::b,_,_,k=>by
  obtain⟨m,d,_,_⟩:=iH k;obtain⟨x,u,l⟩:=aBV (bK ((y::b).take (m+1)));rw[lI,iP d,l];rfl
 | _,x::a,[],_,o,_=>by
  obtain⟨m,d,_,_⟩:=iH o;obtain⟨z,u,l⟩:=aBV (bK ((x::a).take (m+1)));rw[lI,iP d,l];rfl
 | 0,_::_,_::_,h,_,_=>by simp at h
 | N+1,x::a,y::b,v,o,k=>by
  obtain⟨n,d,q,w⟩:=iH o;obtain⟨m,g1,r,-⟩:=iH k;have j:=(mP d).1;have i:=(mP g1).1;rw[iP d,iP g1];have t:x::a=(x::a).take (n+1)++a.drop n:=(ck (n+1) (x::a)).symm;have s:y::b=(y::b).take (m+1)++b.drop m:=(ck (m+1) (y::b)).symm;rw[show eA (x::a) (y::b)=eA ((x::a).take (n+1)++a.drop n) ((y::b).take (m+1)++b.drop m) by rw[<-t,<-s]];generalize (x::a).take (n+1)=f at*;generalize (y::b).take (m+1)=g at*
  by_cases c:f=g
  .subst c;rw[zH,zG];exact zI N _ _ (by simp only[bk]at v;rw[co];omega) q r
  .rw[aDK j i c]
   by_cases p:bK f=bK g
   .exfalso;have c1:=aDK j i c [] [];have c2:=aDK i j (λe=>c e.symm) [] [];rw[p,if_neg (Nat.lt_irrefl _)]at c1 c2;have:=kJ (f++ []) (g++ []);omega
   .exact aGm (aAF j) (aAF i) p _ _
section
open Go.Sort
abbrev Mem:=List UInt8×Tr
def lY(x y:Mem):Bool:=decide (eA x.1 y.1<=0)
def hZ(l:List Mem):List Mem:=
 if l.length<2 then l else dh (hZ (l.take (l.length/2))) (hZ (l.drop (l.length/2))) lY
termination_by l.length
decreasing_by all_goals(simp_wf;omega)
theorem gG{l:List Mem}(h:l.length<2):hZ l=l:=by rw[hZ,if_pos h]
theorem nP{l:List Mem}(h:¬l.length<2):hZ l=dh (hZ (l.take (l.length/2))) (hZ (l.drop (l.length/2))) lY:=by rw[hZ,if_neg h]
theorem aBZ(N:Nat):∀l:List Mem,l.length<=N->(hZ l).Perm l:=by
 induction N with
 | zero=>intro l h;rw[gG (by omega)]
 | succ N a=>
  intro l h
  by_cases b:l.length<2
  .rw[gG b]
  .rw[nP b];have d:=a (l.take (l.length/2)) (by rw[di];omega);have c:=a (l.drop (l.length/2)) (by rw[co];omega);refine(List.merge_perm_append ..).trans ((d.append c).trans ?_);rw[ck]
theorem aB0(a b c:Mem)(g:lY a b=V)(f:lY b c=V):lY a c=V:=by
 unfold lY at*;have g:=of_decide_eq_true g;have f:=of_decide_eq_true f;refine decide_eq_true ?_;have d:=kS a.1 b.1;have e:=kS b.1 c.1;rcases d with d|d|d
 .rcases e with e|e|e
  .have:=mK (x:=a.1) (y:=b.1) (z:=c.1) (by omega) (by omega);omega
  .rw[<-qS e,d];decide
  .omega
 .rw[qS d];exact f
 .omega
theorem aB1(a b:Mem):(lY a b||lY b a)=V:=by
 unfold lY;have:=kJ a.1 b.1;simp only[Bool.or_eq_true,decide_eq_true_eq];omega
theorem yA(N:Nat):∀l:List Mem,l.length<=N->(hZ l).Pairwise (λa b=>lY a b=V):=by
 induction N with
 | zero=>intro l h;rw[gG (by omega),List.eq_nil_of_length_eq_zero (Nat.le_zero.1 h)];exact .nil
 | succ N d=>
  intro l h
  by_cases c:l.length<2
  .rw[gG c]
   match l,c with
   | [],_=>exact .nil
   | [a],_=>simp
   | _::_::_,c=>simp at c;omega
  .rw[nP c];exact List.pairwise_merge aB0 aB1 _ _ (d _ (by rw[di];omega)) (d _ (by rw[co];omega))
theorem aDQ{a b:List (List UInt8)}(c:a.Perm b)(d:a.Pairwise (λx y=>eA x y<=0))(e:b.Pairwise (λx y=>eA x y<=0)):a=b:=by
 refine c.eq_of_pairwise (le:=λx y=>eA x y<=0) ?_ d e;intro x y _ _ g f;have:=kJ x y;exact qS (by omega)
theorem aAK{keys:List (List UInt8)}(h:bH keys):(cV keys).Pairwise (λx y=>eA x y<=0):=by
 rw[nM h];obtain⟨d,f⟩:∃d,(oZ keys h).toArray=d:=⟨_,rfl⟩;rw[f];have c:=(Sort.pdq_sorts (ltOf tY) qT d 0 d.size (Lib.bitLen d.size) V V (aw _) (az _) (U rfl)).2;have c:SortedIn (ltOf tY) 0 d.size (gJ d):=c;rw[dj];rw[List.pairwise_iff_getElem];intro i j hi a b;have e:=pG d;have:=c i j (aw _) b (by rw[<-e];simpa using a);rw[getElem!_pos (gJ d) i (by simpa using hi),getElem!_pos (gJ d) j (by simpa using a)]at this;unfold ltOf tY at this;have k:=of_decide_eq_false this;have g:=kJ ((gJ d)[i]'(by simpa using hi)).1 ((gJ d)[j]'(by simpa using a)).1;simp only[Array.getElem_toList];omega
theorem aJW{keys:List (List UInt8)}{items:List Tr}(h:bH keys)(c:keys.Nodup)(l:items.length=keys.length):(hZ (keys.zip items)).map (·.1)=cV keys/\(hZ (keys.zip items)).map (·.2)=besides keys items:=by
 have e:=aBZ (keys.zip items).length (keys.zip items) (az _);have k:=yA (keys.zip items).length (keys.zip items) (az _)
 have f:(hZ (keys.zip items)).map (·.1)=cV keys:=by
  refine aDQ ?_ ?_ (aAK h)
  .refine(e.map (·.1)).trans ?_;have:(keys.zip items).map (·.1)=keys:=List.map_fst_zip (by omega);rw[this];exact(fI keys).symm
  .rw[dj];exact k.imp λb=>of_decide_eq_true b
 refine⟨f,?_⟩;unfold besides;rw[<-f,List.map_map];refine List.map_congr_left λm g=>?_
 have d:m∈keys.zip items:=e.mem_iff.1 g;obtain⟨i,hi,a⟩:=List.mem_iff_getElem.1 d;rw[List.getElem_zip]at a;have j:keys[i]?=I m.1:=by rw[bm (by simp at hi;omega),<-a]
 show m.2=items.getD (keys.idxOf m.1) .null
 rw[aDA c j,List.getD_eq_getElem?_getD,bm (by simp at hi;omega),<-a];rfl
end
theorem pZ(c:UInt8)(w:Z)(l:List UInt8)(h:aN c=l):ac ae 140 #[O ah ((c.toNat:Nat):Int)] w λe w'=>e=af (cr ⟨l.toArray⟩)/\w'=w:=by
 have:=lF c w;rw[h]at this;exact this
def aFL(w:Z)(b:Nat)(d a:X)(toks:List X)(t:X)(c:X->X->Array X)(e:bp)(w':Z):Prop:=
 e=af (O S 0)/\∃rawV' g off cap,w'.heap[b]?=I (ai (c rawV' (Y (I ⟨g,off,J⟩) (toks.length+1) cap)) 228 (0,0))/\
  Win 232 id w' (Y (I ⟨g,off,J⟩) (toks.length+1) cap) (toks++ [t])/\(a.ownBlock=I g\/w.heap.size<=g)/\Keeps (λk=>k=b\/d.ownBlock=I k\/a.ownBlock=I k) w w'
theorem s7{d y:UInt8}{s:ByteArray}{K:Nat}(e:(⟨(aN d).toArray⟩:ByteArray)=s)(a:(aN d)[K]?=I y):∃h:K<s.size,s[K]=y:=by
 subst e;obtain⟨c,b⟩:=List.getElem?_eq_some_iff.1 a;exact⟨by simpa[dx]using c,by simpa[dy]using b⟩
theorem aEQ(w:Z)(b g off cap K:Nat)(l m n o p q r t u v x z A:X)(d y f:UInt8)(F:w.heap[b]?=I (ai #[l,m,n,o,p,q,Y (I ⟨g,off,J⟩) K cap,r,t,u,v,x,z,A] 228 (0,0)))
 (B:w.cell? ⟨g,off,J⟩=I (cC d))(G:0<K)(k:(aN d)[K]?=I y)(h:f≠y):
 ac ae 141 #[aj (I ⟨b,0,J⟩),O ah ((f.toNat:Nat):Int)] w λe w'=>e=af (O S 94)/\w'=w:=by
 obtain⟨N,c1,c2,P,R,T,c6,c7,c8,c9,ca,cb,cc,cd,cf⟩:=aM F;obtain⟨s,i⟩:∃s:ByteArray,(⟨(aN d).toArray⟩:ByteArray)=s:=⟨_,rfl⟩;obtain⟨C,j⟩:=s7 i k;subst j;obtain⟨-,-,-⟩:=aD (c:=f) (d:=s[K]) h rfl;obtain⟨-,-,n6⟩:=aD (c:=s[K]) (d:=f) h.symm rfl;have a:=L (pZ d w _ rfl);rw[i]at a;unfold cC at B;clear F h i k;go_enter ct,cu;go_wp2_with fail;refine(a.o).mono ?_;rintro e w1 ⟨rfl,rfl⟩;go_wp2_with fail;go_ret;exact⟨rfl,rfl⟩
theorem aHc(w:Z)(b g off cap:Nat)(A B C G K N P R T va vb vc vd:X)(d y:UInt8)(l:List UInt8)(o:w.heap[b]?=I (ai #[A,B,C,G,K,N,Y (I ⟨g,off,J⟩) l.length cap,P,R,T,va,vb,vc,vd] 228 (0,0)))
 (h0:w.cell? ⟨g,off,J⟩=I (cC d))(f:Win 5 cC w (Y (I ⟨g,off,J⟩) l.length cap) l)(hK:0<l.length)(m:(aN d)[l.length]?=I y)(h:l.length+1≠(aN d).length):
 ac ae 141 #[aj (I ⟨b,0,J⟩),O ah ((y.toNat:Nat):Int)] w λe w'=>n8 w b (Y (I ⟨g,off,J⟩) l.length cap) (l++ [y]) (λv=> #[A,B,C,G,K,N,v,P,R,T,va,vb,vc,vd]) e w':=by
 obtain⟨c0,c1,c2,c3,c4,c5,c6,c7,c8,c9,ca,cb,cc,cd,cf⟩:=aM o;obtain⟨s,a⟩:∃s:ByteArray,(⟨(aN d).toArray⟩:ByteArray)=s:=⟨_,rfl⟩;obtain⟨hks,hyk⟩:=s7 a m
 have hKL:l.length<5:=by
  have:s.size<=5:=by rw[<-a];show(aN d).toArray.size<=5;rw[bs];unfold aN;repeat' (first|exact by decide|split)
  omega
 have i:=L (pZ d w _ rfl);rw[a]at i;have q:=L (f.ne o (by decide));have a0:=L o;have r:=dl o;have c:Win 5 cC (w.alloc (ai #[cC y] 5)) (Y (I ⟨g,off,J⟩) l.length cap) l:=f.A0 (F:=λ_=>False) ((D _ w).A4 _) (λ_ _=>id);have HR:=L c;have j:s.size=(aN d).length:=by rw[<-a];exact bs
 unfold cC at h0;have t:¬(l.length:Int)+1=(s.size:Int):=by omega
 have hn2:((l.length:Int)+1==(s.size:Int))=W:=by simpa using t
 clear o a f c m h j;go_enter ct,cu;go_wp2_with fail;refine(i.o).mono ?_;rintro e w1 ⟨rfl,rfl⟩
 go_wp2_with (at_builtin;refine cW nF rfl _ _ rfl rfl HR.o ⟨w1.heap.size,0,J⟩ 1 y rfl ?_ rfl ?_ ?_ ?_)
 .exact fN rfl
 .omega
 .unfold maxLen;omega
 intro u j m w' a f h;have c:=(h.block b (by simp;omega) (λe=>q.o e.symm)).trans ((dm _ _ _ r).trans a0.o);have x:=L (a.ne c (by decide));have z:=L (show(Y (I ⟨g,off,J⟩) l.length cap).ownBlock=I u\/w1.heap.size<=u from f.elim U (λo=>ag (Q (by simp) o.1)));have HK:=L (((D (λk=>k=b\/(Y (I ⟨g,off,J⟩) l.length cap).ownBlock=I k) w1).A4 (ai #[cC y] 5)).F9 h (λk e=>U (ag e)));have n:=L a;obtain⟨-,-,-,-,-,-,d6,-,-,-,-,-,-,-,df⟩:=aM c;have HB:=L c;clear c a f h c0 c1 c2 c3 c4 c5 c6 c7 c8 c9 ca cb cc cd cf;go_wp2_with fail;go_ret;refine⟨rfl,u,j,m,?_,?_,z.o,HK.o.A2 (p:=⟨b,6,J⟩) (U (U rfl)) _⟩
 .rw[dp];exact aB HB.o _
 rw[dp];exact n.o.A0 ((D (λk=>k=b) w').A2 (p:=⟨b,6,J⟩) (U rfl) _) (λk e a=>x.o (e.trans (congrArg I a)))
theorem aER(w:Z)(b g off cap pl st:Nat)(v1 v2 v3 v4 v7 v8 v9 va vb vc a:X)(d y:UInt8)(l:List UInt8)(toks:List X)(q:w.heap[b]?=I (ai #[O S pl,v1,v2,v3,v4,O S st,Y (I ⟨g,off,J⟩) l.length cap,v7,v8,v9,va,vb,vc,a] 228 (0,0)))
 (h0:w.cell? ⟨g,off,J⟩=I (cC d))(n:Win 5 cC w (Y (I ⟨g,off,J⟩) l.length cap) l)(hK:0<l.length)(A:(aN d)[l.length]?=I y)(u:l.length+1=(aN d).length)(x:Win 232 id w a toks)(i:toks.length<=1000)(j:st<=pl+1)(f:pl<=1073741823):
 ac ae 141 #[aj (I ⟨b,0,J⟩),O ah ((y.toNat:Nat):Int)] w λe w'=>aFL w b (Y (I ⟨g,off,J⟩) l.length cap) a toks (bS (bu st (pl+1-st) (aN d))) (λr v=> #[O S pl,v1,v2,ba (bc 104) #[] #[],H W,O S st,r,v7,v8,v9,va,vb,vc,v]) e w':=by
 obtain⟨c0,c1,c2,c3,c4,c5,c6,c7,c8,c9,ca,cb,cc,cd,cf⟩:=aM q;obtain⟨s,h⟩:∃s:ByteArray,(⟨(aN d).toArray⟩:ByteArray)=s:=⟨_,rfl⟩;obtain⟨hks,hyk⟩:=s7 h A
 have hKL:l.length<5:=by
  have:s.size<=5:=by rw[<-h];show(aN d).toArray.size<=5;rw[bs];unfold aN;repeat' (first|exact by decide|split)
  omega
 have t:=L (pZ d w _ rfl);rw[h]at t;have K:=L (n.ne q (by decide));have a0:=L q;have N:=dl q;have m:Win 5 cC (w.alloc (ai #[cC y] 5)) (Y (I ⟨g,off,J⟩) l.length cap) l:=n.A0 (F:=λ_=>False) ((D _ w).A4 _) (λ_ _=>id);have HR:=L m;have z:s.size=(aN d).length:=by rw[<-h];exact bs
 unfold cC at h0;have hn1:(l.length:Int)+1=(s.size:Int):=by omega
 have HW:=L x;have P:=L i;have R:=L (λ(k:Nat)(e:(Y (I ⟨g,off,J⟩) l.length cap).ownBlock=I k)=>rX n x (by decide) e);have T:=L (And.intro j f);obtain⟨sz,c⟩:∃sz,pl+1-st=sz:=⟨_,rfl⟩;have HSZ:=L c;have hpb:pl<=1073741823:=f;rw[show bS (bu st (pl+1-st) (aN d))=.iface 309 (.agg #[O S st,O S (pl+1-st:Nat),cr ⟨(aN d).toArray⟩])from rfl,h,c];clear q h n m x i j f c A u z;go_enter ct,cu;go_wp2_with fail;refine(t.o).mono ?_;rintro e w1 ⟨rfl,rfl⟩
 go_wp2_with (at_builtin;refine cW nF rfl _ _ rfl rfl HR.o ⟨w1.heap.size,0,J⟩ 1 y rfl ?_ rfl ?_ ?_ ?_)
 .exact fN rfl
 .omega
 .unfold maxLen;omega
 intro u c f w' x z i;have j:=(i.block b (by simp;omega) (λe=>K.o e.symm)).trans ((dm _ _ _ N).trans a0.o);have HK:=L (((D (λk=>k=b\/(Y (I ⟨g,off,J⟩) l.length cap).ownBlock=I k) w1).A4 (ai #[cC y] 5)).F9 i (λk e=>U (ag e)));obtain⟨d0,-,-,-,-,-,d6,-,-,-,-,-,-,-,df⟩:=aM j;have h:=aB j (o:=6) (Y (I ⟨u,c,J⟩) (l.length+1) f);simp only[List.setIfInBounds_toArray,List.set_cons_zero,List.set_cons_succ]at h;have A:=L (qK _ b _ st (pl+1) h rfl (by have:=T.o;omega) (by omega));rw[show((pl+1:Nat):Int)=(pl:Int)+1 by omega,HSZ.o]at A;have m:Keeps (λk=>k=b\/(Y (I ⟨g,off,J⟩) l.length cap).ownBlock=I k) w1 (w'.setCell ⟨b,6,J⟩ (Y (I ⟨u,c,J⟩) (l.length+1) f)):=HK.o.A2 (p:=⟨b,6,J⟩) (U (U rfl)) _;have B:Win 232 id (w'.setCell ⟨b,6,J⟩ (Y (I ⟨u,c,J⟩) (l.length+1) f)) a toks:=HW.o.A0 m (λk e hk=>hk.elim (λe2=>HW.o.ne a0.o (by decide) (e.trans (congrArg I e2))) (λe2=>R.o k e2 e));have n:=L (λG(hb:Below (w'.setCell ⟨b,6,J⟩ (Y (I ⟨u,c,J⟩) (l.length+1) f)).heap.size (w'.setCell ⟨b,6,J⟩ (Y (I ⟨u,c,J⟩) (l.length+1) f)) G)=>qL G b _ _ _ _ _ _ _ _ _ _ _ _ _ a 309 (.agg #[O S st,O S sz,cr s]) toks (keep h hb) (B.A0 (bg (λ_=>False) hb) (λ_ _=>id)) P.o);have C:=L m;clear j x z i h B m c0 c1 c2 c3 c4 c5 c6 c7 c8 c9 ca cb cc cd cf;go_wp2_with fail;refine(A.o).mono ?_;rintro e G ⟨rfl,h⟩;have HT:=L (n.o G h);have i:=L h;clear h;go_wp2_with fail;refine(HT.o).mono ?_;rintro e w3 ⟨rfl,g3,h,j,h3,m,x,z⟩;have H3:=L h3;have B:=L m;have HG3:=L x;have HK3:=L z;clear h3 m x z;go_wp2_with fail;go_ret;refine⟨rfl,_,g3,h,j,H3.o,B.o,HG3.o.elim U (λq=>ag (Q C.o.size (Q i.o.size q))),?_⟩;exact((C.o.A6 (λk q=>q.imp id U)).B8 (bg _ i.o)).B8 (HK3.o.A6 (λk q=>q.imp id ag))
theorem aA8(F:Nat->Prop)(w:Z)(b:Nat)(x:Lx)(toks:List Tok)(c:UInt8)(a0:cE F w b x W toks)(p:x.st=cv)(r:x.start<=x.place)(a:x.number<=8)(h:x.raw.length<=1073741824)(B:x.place<=16777216)(T:toks.length<=999):
 ac ae 139 #[aj (I ⟨b,0,J⟩),O ah ((c.toNat:Nat):Int)] w λe w'=>eQ F w b x.place toks (bV x c) e w':=by
 have P:=a0;obtain⟨R,f,i,chV,C,s,t,A,hs⟩:=a0;have v:=hs.raw (ag p);have z:(toks.map bS).length<=1000:=by simp;omega
 unfold bV;cases o:aQ x.number c with
 | some d=>
  refine(pX w b x.number d _ _ _ _ _ _ _ _ _ _ _ _ i c x.raw t a o v.1 h).mono λe w' K=>?_
  obtain⟨q,g,j⟩:=aAY (y:={x with number:=d,raw:=x.raw++ [c]}) R f A v.2 (ag p) rfl ⟨_,t⟩ (λk e=>rX v.1 A.1 (by decide) e) (λu=>by rw[p]) K;exact ak q g (by rw[E];exact j)
 | none=>
  simp only[]
  by_cases q:bI x.number=V
  .rw[if_pos q];cases n:bitsOf x.raw with
   | none=>
    have j:x.C0=J:=by unfold bw;rw[n];rfl
    rw[j];refine(yN w b x.number _ _ _ _ _ _ _ _ _ _ _ _ i c x.raw t a o q v.1 h n).mono ?_;rintro e w' ⟨rfl,d⟩;have g:Keeps F w w':=bg F d;exact ar (by decide) rfl g (by rw[E];exact(P.H8.B6 (G:=λ_=>False) (bg _ d) (λ_ _=>id)).A6 (λk g=>U g) (aF f g.size))
   | some d=>
    have j:x.C0=I (x.F3,bh x.start (x.place-x.start) d):=by unfold bw;rw[n];rfl
    rw[j];simp only[];refine aA7 w b x.number x.place x.start _ _ _ _ _ _ _ _ _ i s c x.raw (toks.map bS) d _ t a o q v.1 h n A.1 z r (by omega) ?_;intro w1 K;obtain⟨_,l,N⟩:=aAX (y:=x.F3) (tok:=bh x.start (x.place-x.start) d) R f A rfl rfl (λu=>rfl) K;refine(rU (Since F w w1) w1 b x.F3 (toks++ [bh x.start (x.place-x.start) d]) c N rfl B (by simp;omega)).mono ?_;rintro e w2 ⟨rfl,m,hg,hd⟩;refine⟨⟨_,rfl⟩,rfl,l.B7 m,λo=>?_,λo=>?_⟩
    .have:=hg o;rw[dq,dt]at this;exact this.A6 (λk g=>g.B9 l.size m.size) (aF f (Q l.size m.size))
    .have:=hd o;rw[dq,dt]at this;exact this.A6 (λk g=>g.B9 l.size m.size) (aF f (Q l.size m.size))
  .have d:bI x.number=W:=by simpa using q
   rw[if_neg q];refine(aCB w b x.number _ _ _ _ _ _ _ _ _ _ _ _ _ c t a o d).mono ?_;rintro e w' ⟨rfl,rfl⟩;exact ar (by decide) rfl (D _ _) (by rw[E];exact P.H8.A6 (λk g=>U g) (aF f (az _)))
def aKi(F:Nat->Prop)(w:Z)(b:Nat)(toks:List Tok)(t:Lx×List Tok×Nat×Nat)(e:bp)(w':Z):Prop:=
 Keeps F w w'/\(t.2.2.1=0->e=af au/\cE (Since F w w') w' b t.1 V (toks++t.2.1))/\
 (t.2.2.1≠0->e=af (cM t.2.2.1 t.2.2.2)/\∃pl st,dR (Since F w w') w' b pl st (cM t.2.2.1 t.2.2.2) (toks++t.2.1))
theorem cE.Q9{F:Nat->Prop}{w:Z}{b:Nat}{x:Lx}{A:Bool}{toks:List Tok}(h:cE F w b x A toks)(d:Bool):cE F (w.setCell ⟨b,2,J⟩ (H d)) b x d toks:=by
 obtain⟨z,l,j,o,c,i,g,q,t⟩:=h;have a:Keeps (λk=>k=b) w (w.setCell ⟨b,2,J⟩ (H d)):=(D (λk=>k=b) w).A2 (p:=⟨b,2,J⟩) (U rfl) _;refine⟨z,λk m=>Nat.lt_of_lt_of_le (l k m) a.size,j,o,c,i,aB g _,⟨q.1.A0 a (λk e a=>q.1.ne g (by decide) (e.trans (congrArg I a))),q.2⟩,⟨λh=>?_,λh=>?_⟩⟩
 .have r:=t.raw h;exact⟨r.1.A0 a (λk e a=>r.1.ne g (by decide) (e.trans (congrArg I a))),r.2⟩
 .obtain⟨n,f,pl,u,s,v,y⟩:=t.text h;exact⟨⟨n.1.A0 a (λk e a=>n.1.ne g (by decide) (e.trans (congrArg I a))),n.2⟩,f,pl,u,s.A0 a (oB s g (by decide)),v,y⟩
theorem aE1(F:Nat->Prop)(w:Z)(b:Nat)(x:Lx)(toks:List Tok)(a0:cE F w b x W toks)(t:x.number<=8)(v:x.st=cv->x.raw.length<=x.place)(l:x.place<=16777216)(y:x.start<=x.place)(c:bI x.number=V->x.isIn=V->x.st=cv)(htl:toks.length<=999):
 ac ae 78 #[aj (I ⟨b,0,J⟩)] w λe w'=>aKi F w b toks x.C6 e w':=by
 obtain⟨-,c1,c2,c4,c5,cf⟩:=a0.F6;have h1:=a0.Q9 V;have HF:=L a0.1;have htl2:(toks.map bS).length<=1000:=by simp;omega
 have d:Keeps F w (w.setCell ⟨b,2,J⟩ (H V)):=(D F w).A2 (p:=⟨b,2,J⟩) (U a0.1) _;have HK1:=L d;have f:cE (Since F w (w.setCell ⟨b,2,J⟩ (H V))) (w.setCell ⟨b,2,J⟩ (H V)) b x V toks:=h1.A6 (λk m=>U m) (aF a0.lt d.size);have HX1:=L f;cases a:x.isIn with
 | false=>
  have n:x.C6=(x,[],0,0):=by unfold bx;rw[a];rfl
  rw[n];rw[a]at c4;clear a0 h1 n d f c a t v l y;go_enter bz,cg;go_wp2_with fail;go_ret;exact⟨HK1.o,λ_=>⟨rfl,by rw[E];exact HX1.o⟩,λe=>absurd rfl e⟩
 | true=>
  obtain⟨z,A,P,chV,saysV,tokV,h,q,C⟩:=h1;obtain⟨d0,d1,d2,d3,d4,d5,d6,d7,d8,d9,da,db,dc,dd,df⟩:=aM h;rw[a]at c4 d4;have HE:=L (lE x.number t);cases r:bI x.number with
  | false=>
   have n:x.C6=(x,[],95,x.place):=by unfold bx;rw[a,r];rfl
   rw[n];rw[r]at HE;have i:=L (f.H8.I9 (cM 95 x.place));clear a0 n d f c a t v l y h q C z A r;go_enter bz,cg;go_wp2_with fail;refine(HE.o _).mono ?_;rintro e w1 ⟨rfl,rfl⟩;go_wp2_with fail;go_ret;refine⟨HK1.o.A2 (p:=⟨b,1,J⟩) (U HF.o) _,λe=>absurd e (show ¬(95:Nat)=0 by decide),λ_=>⟨rfl,x.place,x.start,?_⟩⟩;rw[E];exact i.o.A6 (λk m=>m.E7 (by simp[bj])) (λk m=>i.o.2.1 k (m.E7 (by simp[bj])))
  | true=>
   have K:=c r a;have hr:=C.raw (ag K);have N:x.raw.length<=1073741824:=Q (v K) (Q l (by decide));rw[r]at HE;cases s:bitsOf x.raw with
   | none=>
    have n:x.C6=(x,[],41,x.start):=by unfold bx;rw[a,r];simp[bw,s]
    rw[n];have i:=tT _ b _ _ _ _ _ _ _ _ _ _ _ _ _ P x.raw h hr.1 N s
    have HFN:=L (i.mono (R':=λe w'=>e=af (H W)/\w'.cell? ⟨b,5,J⟩=I (O S x.start)/\(∃u,w'.cell? ⟨b,1,J⟩=I u)/\(∀o,w'.frozen? ⟨b,o,J⟩=W)/\Keeps F w w'/\dR (Since F w w') w' b x.place x.start au toks) λe w' ⟨r,j⟩=>by
     have R:=f.H8.B6 (G:=λ_=>False) (bg _ j) (λ_ _=>id);have T:=keep h j;obtain⟨-,e1,-,-,-,e5,-,-,-,-,-,-,-,-,ef⟩:=aM T;have B:Keeps F w w':=d.B8 (bg F j);exact⟨r,e5,⟨_,e1⟩,ef,B,R.A6 (λk m=>m.E7 j.size) (aF a0.lt B.size)⟩)
    clear a0 n d f c a t v l y h q C z A r K hr N s i;go_enter bz,cg;go_wp2_with fail;refine(HE.o _).mono ?_;rintro e w1 ⟨rfl,rfl⟩;go_wp2_with fail;refine(HFN.o).mono ?_;rintro e w2 ⟨rfl,e5,⟨u,e1⟩,ef,i,R⟩;have HK2:=L i;have HD2:=L (R.I9 (cM 41 x.start));clear i R c1 c2 c4 c5 cf d0 d1 d2 d3 d4 d5 d6 d7 d8 d9 da db dc dd df;go_wp2_with fail;go_ret;refine⟨HK2.o.A2 (p:=⟨b,1,J⟩) (U HF.o) _,λe=>absurd e (show ¬(41:Nat)=0 by decide),λ_=>⟨rfl,x.place,x.start,?_⟩⟩;rw[E];exact HD2.o.A6 (λk m=>m.E7 (by simp[bj])) (λk m=>HD2.o.2.1 k (m.E7 (by simp[bj])))
   | some j=>
    have n:x.C6=(x.F3,[bh x.start (x.place-x.start) j],0,0):=by unfold bx;rw[a,r];simp[bw,s]
    rw[n];have hfs:=tU _ b x.place x.start _ _ _ _ _ _ _ _ _ _ P tokV x.raw (toks.map bS) j h hr.1 N s q.1 htl2 y (Q l (by decide))
    have HFS:=L (hfs.mono (R':=λe w'=>e=af (H V)/\Keeps F w w'/\cE (Since F w w') w' b x.F3 V (toks++ [bh x.start (x.place-x.start) j])/\(w'.cell? ⟨b,1,J⟩=I au)) λe w' n=>by
     obtain⟨r,g,off,cap,T,R,hg2,i⟩:=n;have hkf:Keeps F (w.setCell ⟨b,2,J⟩ (H V)) w':=i.A6 λk m=>m.elim (λe=>e▸z) (λe=>q.2 k e)
     have B:Keeps F w w':=d.B8 hkf
     have hl:cE (Since F w w') w' b x.F3 V (toks++ [bh x.start (x.place-x.start) j]):=by
      refine⟨U z,aF a0.lt B.size,_,_,_,_,T,⟨by rw[du,dv,dw];simpa using R,?_⟩,⟨λhs=>?_,λhs=>?_⟩⟩
      .intro k hk3;cases hk3;exact hg2.elim (λe=>U (q.2 _ e)) (λhle=>ag ⟨by simpa[bj]using hle,R.lt rfl⟩)
      .simp[cj]at hs
      .simp[cj,dF]at hs
     exact⟨r,B,hl,(hl.F6).2.1⟩)
    clear a0 n d f c a t v l y h q C z A r K hr N s hfs;go_enter bz,cg;go_wp2_with fail;refine(HE.o _).mono ?_;rintro e w1 ⟨rfl,rfl⟩;go_wp2_with fail;refine(HFS.o).mono ?_;rintro e w2 ⟨rfl,i,a,e1⟩;have HK2:=L i;have c:=L a;clear i a c1 c2 c4 c5 cf d0 d1 d2 d3 d4 d5 d6 d7 d8 d9 da db dc dd df;go_wp2_with fail;go_ret;exact⟨HK2.o,λ_=>⟨rfl,c.o⟩,λe=>absurd rfl e⟩
theorem sB{F:Nat->Prop}{w w':Z}{b:Nat}{x y:Lx}{toks:List Tok}{p m a d:X}{c:Array X}(A:F b)(r:∀k,F k->k<w.heap.size)(u:w.heap[b]?=I (ai c 228 (0,0)))(B:fC F 232 id w d (toks.map bS))(K:aAx F w x p m a)(N:dF x.st=V)
 (i:y.says=x.says)(j:y.held=x.held)(l:dF y.st=V)(g:Keeps (λk=>k=b) w w'){rawV':X}
 (v:w'.heap[b]?=I (ai #[O S y.place,au,H W,ba (bc (pC y.st)) #[] #[],H y.isIn,O S y.start,rawV',O S y.number,m,a,O S y.digits,O ao y.code,O ao y.high,d] 228 (0,0))):
 Keeps F w w'/\cE (Since F w w') w' b y W toks:=by
 obtain⟨n,f,C,rfl,o,q,z⟩:=K.text N;have t:f≠b:=oB o u (by decide);have s:Keeps F w w':=g.A6 (λk e=>e▸A);refine⟨s,U A,aF r g.size,rawV',_,a,d,v,B.A0 (G:=λk=>k=b) g (λk e g=>B.1.ne u (by decide) (e.trans (congrArg I g))),⟨λh=>?_,λ_=>⟨?_,f,C,rfl,?_,U q,?_⟩⟩⟩
 .rcases h with h|h<;>(rw[h]at l;cases l)
 .rw[i];exact n.A0 (G:=λk=>k=b) g (λk e g=>n.1.ne u (by decide) (e.trans (congrArg I g)))
 .rw[j];exact o.A0 g t
 .rw[i];exact z
theorem aA9{F:Nat->Prop}{w w':Z}{b:Nat}{x y:Lx}{toks:List Tok}{o p d h:X}{P:Array X}(G:F b)(t:∀k,F k->k<w.heap.size)(K:w.heap[b]?=I (ai P 228 (0,0)))(r:fC F 232 id w h (toks.map bS))(R:aAx F w x o p d)(T:dF x.st=V)
 (N:x.says.length<=y.says.length)(l:y.held=x.held)(q:dF y.st=V){c:X->Array X}{e:bp}{rawV':X}
 (hc:∀u,c u= #[O S y.place,au,H W,ba (bc (pC y.st)) #[] #[],H y.isIn,O S y.start,rawV',O S y.number,p,u,O S y.digits,O ao y.code,O ao y.high,h])
 (C:uJ w b d y.says c e w'):e=af (O S 0)/\Keeps F w w'/\cE (Since F w w') w' b y W toks:=by
 obtain⟨i,f,fp,rfl,m,v,hfp⟩:=R.text T;have z:f≠b:=oB m K (by decide);obtain⟨he,g,off,cap,A,j,hg,s⟩:=C
 have B:Keeps F w w':=s.A6 (λk e=>by
  rcases e with rfl|e
  .exact G
  .exact i.2 k e)
 refine⟨he,B,U G,aF t s.size,rawV',_,_,h,by rw[A,hc],⟨r.1.A0 s ?_,λk a=>U (r.2 k a)⟩,⟨λC=>?_,λ_=>⟨⟨j,?_⟩,f,fp,rfl,?_,U v,?_⟩⟩⟩
 .intro k a n;rcases n with rfl|n
  .exact r.1.ne K (by decide) a
  .exact rX i.1 r.1 (by decide) n a
 .rcases C with C|C<;>(rw[C]at q;cases q)
 .intro k a;cases a;exact hg.elim (λe=>U (i.2 _ e)) (λn=>ag ⟨n,j.lt rfl⟩)
 .rw[l];refine m.A0 s ?_;rintro(e|e)
  .exact z e
  .exact sY m i.1 (by decide) e
 .omega
theorem jD{F:Nat->Prop}{w:Z}{b:Nat}{x:Lx}{toks:List Tok}(h:cE F w b x W toks):dR (Since F w w) w b x.place x.start au (toks++ []):=by
 rw[E];exact h.H8.A6 (λk a=>U a) (aF h.lt (az _))
theorem aE2(F:Nat->Prop)(w:Z)(b:Nat)(x:Lx)(toks:List Tok)(c:UInt8)(h:cE F w b x W toks)(g:x.st=.slash):
 ac ae 223 #[aj (I ⟨b,0,J⟩),O ah ((c.toNat:Nat):Int)] w λe w'=>eQ F w b x.place toks (fA x c) e w':=by
 have o:=h;obtain⟨s,d,m,r,i,l,k,t,v⟩:=h;refine(aFW w b _ _ _ _ _ _ _ _ _ _ _ _ _ _ c k).mono ?_;rintro e w' ⟨q,n⟩;unfold fA
 by_cases a:c=92
 .rw[if_pos a];obtain⟨z,j,p⟩:=q a;obtain⟨f,u⟩:=sB (y:={x with st:=.letterU}) s d k t v (by rw[g];rfl) rfl rfl rfl p j;exact ak z f (by rw[E];exact u)
 .rw[if_neg a];obtain⟨rfl,rfl⟩:=n a;exact ar (by decide) rfl (D _ _) (jD o)
theorem aBa(F:Nat->Prop)(w:Z)(b:Nat)(x:Lx)(toks:List Tok)(c:UInt8)(h:cE F w b x W toks)(g:x.st=.letterU):
 ac ae 241 #[aj (I ⟨b,0,J⟩),O ah ((c.toNat:Nat):Int)] w λe w'=>eQ F w b x.place toks (dO x c) e w':=by
 have o:=h;obtain⟨s,d,m,r,i,l,k,t,v⟩:=h;refine(aBw w b _ _ _ _ _ _ _ _ _ _ _ _ _ _ c k).mono ?_;rintro e w' ⟨q,n⟩;unfold dO
 by_cases a:c=117
 .rw[if_pos a];obtain⟨z,j,p⟩:=q a;obtain⟨f,u⟩:=sB (y:={x with digits:=0,code:=0,st:=cw}) s d k t v (by rw[g];rfl) rfl rfl rfl p j;exact ak z f (by rw[E];exact u)
 .rw[if_neg a];obtain⟨rfl,rfl⟩:=n a;exact ar (by decide) rfl (D _ _) (jD o)
theorem aC2(F:Nat->Prop)(w:Z)(b:Nat)(x:Lx)(toks:List Tok)(c:UInt8)(h:cE F w b x W toks)(a:x.st=.escape)(j:x.says.length<=1073741824):
 ac ae 168 #[aj (I ⟨b,0,J⟩),O ah ((c.toNat:Nat):Int)] w λe w'=>eQ F w b x.place toks (dK x c) e w':=by
 have B:=h;obtain⟨v,g,A,G,f,t,l,z,p⟩:=h;have q:=(p.text (by rw[a];rfl)).1;unfold dK
 by_cases k:c=117
 .rw[if_pos k];subst k;refine(aHP w b _ _ _ _ _ _ _ _ _ _ _ _ _ _ l).mono ?_;rintro e w' ⟨s,r,n⟩;obtain⟨m,o⟩:=sB (y:={x with digits:=0,code:=0,st:=cw}) v g l z p (by rw[a];rfl) rfl rfl rfl n r;exact ak s m (by rw[E];exact o)
 .rw[if_neg k];cases i:cO c with
  | none=>
   refine(aDl w b c k i).mono ?_;rintro e w' ⟨rfl,rfl⟩;exact ar (by decide) rfl (D _ _) (jD B)
  | some d=>
   refine(aBy w b _ _ _ _ _ _ _ _ _ _ _ _ _ f c d x.says l k i q.1 j).mono λe w' C=>?_
   obtain⟨s,n,o⟩:=aA9 (y:={x with says:=x.says++ [d],st:=cz}) v g l z p (by rw[a];rfl) (by simp) rfl rfl (λu=>rfl) C;exact ak s n (by rw[E];exact o)
theorem aKj{F:Nat->Prop}{w w':Z}{b:Nat}{d i t:X}{toks:List Tok}{tok:Tok}{e:bp}{y:Lx}{m a:X}(v:F b)(o:∀k,F k->k<w.heap.size)(x:fC F 232 id w d (toks.map bS))(C:∀k,i.ownBlock=I k->F k)(z:t=bS tok)(j:y.st=.outside){c:X->X->Array X}
 (K:∀r u,c r u= #[O S y.place,au,H W,ba (bc 104) #[] #[],H y.isIn,O S y.start,r,O S y.number,m,a,O S y.digits,O ao y.code,O ao y.high,u])
 (h:aFL w b i d (toks.map bS) t c e w'):e=af (O S 0)/\Keeps F w w'/\cE (Since F w w') w' b y W (toks++ [tok]):=by
 obtain⟨G,rawV',g,off,cap,A,f,B,p⟩:=h
 have l:Keeps F w w':=p.A6 λk p=>by
  rcases p with rfl|e|e
  .exact v
  .exact C k e
  .exact x.2 k e
 refine⟨G,l,U v,aF o l.size,rawV',m,a,_,by rw[A,K,j];rfl,⟨?_,?_⟩,⟨λn=>?_,λn=>?_⟩⟩
 .rw[du,dv,dw,<-z];exact f
 .intro k q;cases q;exact B.elim (λe=>U (x.2 _ e)) (λs=>ag ⟨s,f.lt rfl⟩)
 .rw[j]at n;exact absurd n (by decide)
 .rw[j]at n;exact absurd n (by decide)
theorem aC3(F:Nat->Prop)(w:Z)(b:Nat)(x:Lx)(toks:List Tok)(c:UInt8)(a0:cE F w b x W toks)(m:x.st=.letter)(hst2:x.start<=x.place)(B:x.raw≠ []/\x.raw.length<(aN (x.raw.headD 0)).length)(hpl:x.place<=16777216)(htl:toks.length<=999):
 ac ae 141 #[aj (I ⟨b,0,J⟩),O ah ((c.toNat:Nat):Int)] w λe w'=>eQ F w b x.place toks (cJ x c) e w':=by
 have h0:=a0;obtain⟨hF,o,rawV,chV,C,p,z,A,hs⟩:=a0;have hr:=hs.raw (U m);have q:(toks.map bS).length<=1000:=by simp;omega
 obtain⟨G,f⟩:=B;obtain⟨a,h,j⟩:=List.exists_cons_of_ne_nil G;have s:=hr.2;have t:=hr.1;rw[j]at t f;simp only[List.headD_cons,bk]at f
 rcases t with⟨_,hn⟩|⟨g,off,cap,K,rfl,v,l,N,P,hi⟩
 .cases hn
 have d:w.cell? ⟨g,off,J⟩=I (cC a):=by rw[aA v];exact hi 0 a rfl
 have i:Win 5 cC w (Y (I ⟨g,off,J⟩) (a::h).length cap) (a::h):=ag ⟨g,off,cap,K,rfl,v,l,N,P,hi⟩
 have n:∀e w',e=af (O S 94)/\w'=w->eQ F w b x.place toks ⟨x,[],94⟩ e w':=by
  rintro e w' ⟨rfl,rfl⟩;exact ar (by decide) rfl (D _ _) (jD h0)
 clear v l N P hi
 have l:∀k:Nat,cJ x c=(if(aN a)[(a::h).length]?=I c then(if(a::h).length+1=(aN a).length then⟨cj {x with raw:=a::h++ [c]},[bu x.start (x.place+1-x.start) (aN a)],0⟩else⟨{x with raw:=a::h++ [c]},[],0⟩)else⟨x,[],94⟩):=λ_=>by
  unfold cJ;rw[j];rfl
 rw[l 0];clear l;have N:0<(a::h).length:=Nat.succ_pos _
 by_cases v:(aN a)[(a::h).length]?=I c
 .rw[if_pos v]
  by_cases l:(a::h).length+1=(aN a).length
  .rw[if_pos l];refine(aER w b g off cap x.place x.start _ _ _ _ _ _ _ _ _ _ p a c _ _ z d i N v l A.1 q (by omega) (by omega)).mono λe w' P=>?_
   obtain⟨l,R,T⟩:=aKj (y:=cj {x with raw:=a::h++ [c]}) (tok:=bu x.start (x.place+1-x.start) (aN a)) hF o A s rfl rfl (λr u=>rfl) P;exact ak l R T
  .rw[if_neg l];refine(aHc w b g off cap _ _ _ _ _ _ _ _ _ _ _ _ _ a c _ z d i N v l).mono λe w' P=>?_
   obtain⟨l,R,T⟩:=aAY (y:={x with raw:=a::h++ [c]}) hF o A s (U m) rfl ⟨_,z⟩ (λk e=>rX i A.1 (by decide) e) (λu=>by rw[m]) P;exact ak l R (by rw[E];exact T)
 .rw[if_neg v];exact(aEQ w b g off cap _ _ _ _ _ _ _ _ _ _ _ _ _ _ a _ c z d N (bm f) (λe=>v (by rw[e];exact bm f))).mono n
theorem aHm{c n:Nat}(h:c<16^n)(a:n<=3):c<4096:=by
 match n,a,h with
 | 0,_,h=>simp at h;omega
 | 1,_,h=>omega
 | 2,_,h=>omega
 | 3,_,h=>omega
theorem aE3(F:Nat->Prop)(w:Z)(b:Nat)(x:Lx)(toks:List Tok)(c:UInt8)(a0:cE F w b x W toks)(i:x.st=cw)(A:x.says.length<=1073741824)(hd:aIE x.high x.digits x.code)(hhi:x.high=0\/(55296<=x.high/\x.high<=56319)):
 ac ae 188 #[aj (I ⟨b,0,J⟩),O ah ((c.toNat:Nat):Int)] w λe w'=>eQ F w b x.place toks (dC x c) e w':=by
 have h0:=a0;obtain⟨hF,q,a,chV,d,B,r,hw,hs⟩:=a0;obtain⟨hsw,f,fp,-,hfe,-,-⟩:=hs.text (by rw[i];rfl);have m:=aHm hd.1 hd.2.1;unfold dC;cases hv:hexOf c with
 | none=>
  refine(aHd w b x.high _ _ _ _ _ _ _ _ _ _ _ _ _ c r hv).mono ?_;rintro e w' ⟨rfl,rfl⟩
  by_cases T:x.high=0
  .rw[if_pos T];simp only[T,if_true];exact ar (by decide) rfl (D _ _) (jD h0)
  .rw[if_neg T];simp only[T,if_false];exact ar (by decide) rfl (D _ _) (jD h0)
 | some v=>
  have hv16:=rB hv;simp only[]
  by_cases s:x.M5 v=V
  .rw[if_pos s];refine(aES w b x.digits x.code x.high v _ _ _ _ _ _ _ _ _ _ _ c r hv s).mono ?_;rintro e w' ⟨rfl,rfl⟩;exact ar (by decide) rfl (D _ _) (jD h0)
  rw[if_neg s]
  have n:eC x.high x.digits x.code v=W:=by
   have:x.M5 v=W:=by simpa using s
   exact this
  by_cases h4:x.digits+1=4
  .rw[if_pos h4];have hd3:x.digits=3:=by omega
   have K:=r;rw[hd3]at K n;have t:=aJj (x.code*16+v) K;have o:=aCW w b (x.code*16+v);have hk4F:Keeps F w (aAh w b (x.code*16+v)):=o.A6 (λk e=>e▸hF);have C:(aAh w b (x.code*16+v)).heap.size=w.heap.size:=by simp[aAh,bj]
   have G:=hsw.1.A0 o (λk e z=>hsw.1.ne r (by decide) (e.trans (congrArg I z)));have hx1:∀k,a=k->a=k:=λ_ a0=>a0
   refine aEU w b x.code x.high v _ _ _ _ _ _ _ _ _ _ _ c _ K hv n m ?_;obtain⟨_,_,T,hnz⟩:=hd
   have l1:x.high≠0->56320<=x.code*16+v/\x.code*16+v<=57343:=λa0=>by
    have:=(hnz a0).2.2 (by omega);omega
   have l2:x.high=0->¬(56320<=x.code*16+v/\x.code*16+v<=57343):=λa0=>by
    have:=(T a0).2 (by omega);omega
   unfold Lx.F5;simp only[]
   by_cases hh:x.high≠0
   .rw[if_pos hh];have N:=l1 hh;refine(aEP _ b 4 (x.code*16+v) x.high _ _ _ _ _ _ _ _ _ d _ x.says t (by omega) (by omega) N.1 N.2 G A).mono ?_;rintro e w' ⟨rfl,g,off,cap,j,p,hg,z⟩;refine⟨rfl,?_⟩
    have hS:uJ w b d (x.says++aS (65536+(x.high-55296)*1024+(x.code*16+v)-56320)) (λu=> #[O S x.place,au,H W,ba (bc 138) #[] #[],H x.isIn,O S x.start,a,O S x.number,chV,u,O S (4:Nat),O ao (x.code*16+v:Nat),O ao (0:Nat),B]) (af (O S 0)) w':=
     ⟨rfl,g,off,cap,j,p,by rw[C]at hg;exact hg,(o.A6 (λk e=>U e)).B8 z⟩
    obtain⟨he,l,P⟩:=aA9 (y:={x with code:=x.code*16+v,digits:=x.digits+1,high:=0,says:=x.says++aS (65536+(x.high-55296)*1024+(x.code*16+v)-56320),st:=cz}) hF q r hw hs (by rw[i];rfl) (by simp) rfl rfl (λu=>by rw[h4];rfl) hS;exact ak he l (by rw[E];exact P)
   .rw[if_neg hh];have R:x.high=0:=by omega
    have N:=l2 R;rw[R]at t
    by_cases h:55296<=x.code*16+v/\x.code*16+v<=56319
    .rw[if_pos h];refine(aEO _ b 4 (x.code*16+v) _ _ _ _ _ _ _ _ _ _ _ t h.1 h.2).mono ?_;rintro e w' ⟨rfl,j,z⟩;refine⟨rfl,?_⟩;obtain⟨l,P⟩:=sB (y:={x with code:=x.code*16+v,digits:=x.digits+1,high:=x.code*16+v,st:=.slash}) (rawV':=a) hF q r hw hs (by rw[i];rfl) rfl rfl rfl (o.B8 z) (by rw[j,h4];rfl);exact ak rfl l (by rw[E];exact P)
    .rw[if_neg h];refine(aHb _ b 4 (x.code*16+v) _ _ _ _ _ _ _ _ _ d _ x.says t h (by unfold fK;omega) G A).mono ?_;rintro e w' ⟨rfl,g,off,cap,j,p,hg,z⟩;refine⟨rfl,?_⟩
     have hS:uJ w b d (x.says++aS (x.code*16+v)) (λu=> #[O S x.place,au,H W,ba (bc 138) #[] #[],H x.isIn,O S x.start,a,O S x.number,chV,u,O S (4:Nat),O ao (x.code*16+v:Nat),O ao (0:Nat),B]) (af (O S 0)) w':=
      ⟨rfl,g,off,cap,j,p,by rw[C]at hg;exact hg,(o.A6 (λk e=>U e)).B8 z⟩
     obtain⟨he,l,P⟩:=aA9 (y:={x with code:=x.code*16+v,digits:=x.digits+1,says:=x.says++aS (x.code*16+v),st:=cz}) hF q r hw hs (by rw[i];rfl) (by simp) rfl rfl (λu=>by rw[h4,R];rfl) hS;exact ak he l (by rw[E];exact P)
  .rw[if_neg h4];have h:=hd.2.1;refine(aET w b x.digits x.code x.high v _ _ _ _ _ _ _ _ _ _ _ c r hv n m (by omega)).mono ?_;rintro e w' ⟨he,j,z⟩;obtain⟨l,P⟩:=sB (y:={x with code:=x.code*16+v,digits:=x.digits+1}) (rawV':=a) hF q r hw hs (by rw[i];rfl) rfl rfl (by show dF x.st=V;rw[i];rfl) z (by rw[j,i]);exact ak he l (by rw[E];exact P)
theorem aBb(F:Nat->Prop)(w:Z)(b g off:Nat)(x:Lx)(toks:List Tok)(c:UInt8)(h:cE F w b x W toks)(l:w.cell? ⟨g,off,J⟩=I (O ah ((c.toNat:Nat):Int)))(d:x.Fine)(j:toks.length<=999):
 ac ae 82 #[aj (I ⟨b,0,J⟩),Y (I ⟨g,off,J⟩) 1 1] w λe w'=>oA F w b toks (x.B0 c) cM e w':=by
 refine aCE F w b g off x toks c h l ?_;refine aKf (pC x.st) (by cases x.st<;>simp[pC]) F w b x toks c rfl h d.place λm=>?_
 have i:dF x.st=V->x.says.length<=1073741824:=λk=>Q (d.text k).2.1 (Q d.place (by decide))
 cases a:x.st with
 | outside=>
  have f:x.B4 c=aO x c:=by unfold av;rw[a]
  rw[f];exact rU F w b x toks c h a d.place (by omega)
 | numeral=>
  have f:x.B4 c=bV x c:=by unfold av;rw[a]
  rw[f];exact aA8 F w b x toks c h a d.start d.number (Q (d.numeral a) (Q d.place (by decide))) d.place (by omega)
 | within=>
  have f:x.B4 c=bW x c:=by unfold av;rw[a]
  rw[f];exact step_within F w b x toks c h a d.start (i (by rw[a];rfl)) d.place (by omega)
 | letter=>
  have f:x.B4 c=cJ x c:=by unfold av;rw[a]
  rw[f];exact aC3 F w b x toks c h a d.start (d.letter a).2 d.place j
 | escape=>
  have f:x.B4 c=dK x c:=by unfold av;rw[a]
  rw[f];exact aC2 F w b x toks c h a (i (by rw[a];rfl))
 | digit=>
  have f:x.B4 c=dC x c:=by unfold av;rw[a]
  rw[f];exact aE3 F w b x toks c h a (i (by rw[a];rfl)) (d.dig a).2.1 (d.dig a).2.2
 | slash=>
  have f:x.B4 c=fA x c:=by unfold av;rw[a]
  rw[f];exact aE2 F w b x toks c h a
 | letterU=>
  have f:x.B4 c=dO x c:=by unfold av;rw[a]
  rw[f];exact aBa F w b x toks c h a
theorem mD(x:Lx)(c:UInt8):(aO x c).toks.length<=1:=by
 unfold aO;split
 .exact aw _
 .simp only[];split
  .exact az _
  .split
   .exact aw _
   .split
    .unfold kO;split<;>exact aw _
    .split<;>exact aw _
theorem aHn(x:Lx)(c:UInt8):(x.B4 c).toks.length<=2:=by
 unfold av;split
 .exact Q (mD x c) (by decide)
 .unfold cJ;simp only[];split
  .split<;>simp
  .simp
 .unfold bV;split
  .simp
  .split
   .cases x.C0 with
    | none=>simp
    | some p=>simp only[bk];have:=mD p.1 c;omega
   .simp
 .unfold bW;split
  .simp
  .split
   .simp
   .split
    .simp
    .split<;>simp
 .unfold dK;split
  .simp
  .split<;>simp
 .unfold dC;split
  .simp
  .split<;>simp
 .unfold fA;split<;>simp
 .unfold dO;split<;>simp
theorem aHo(x:Lx)(c:UInt8):(x.B0 c).2.1.length<=2:=by
 unfold Lx.B0;split
 .simp
 .simp only[];split<;>exact aHn x c
end Go.Proofs.YtakkmiomhackiaaGreatDoor
