/-
  The program, one part of its walk. Conditions: none.
-/
import Derived.Test.YtakkmiomhackiaaGreatDoorAj17
import Derived.Test.YtakkmiomhackiaaGreatDoorAj19
import Derived.Test.YtakkmiomhackiaaGreatDoorAj21
set_option linter.all false
set_option maxRecDepth 100000
set_option maxHeartbeats 16000000
open Go.Proofs.Tryz
open Array renaming getElem_toList->ga
open Bool renaming false->Hf,true->U
open Go renaming Addr->cz,Calls->ar,Value->Q,World->G,info_parts->fq,maxLen->co,results->em
open Go.Proofs.Tryz renaming prog->af
open Go.Proofs.YtakkmiomhackiaaGreatDoor.Row renaming nil->fv
open Go.Proofs.YtakkmiomhackiaaGreatDoor.St renaming digit->dt,escape->dh,letterU->eo,slash->du,within->ae
open List renaming append_inj'->fe,cons_merge_cons->iv,dropLast_concat->ge,flatMap_append->ig,getLast?_map->fc,length->io,map_drop->im,map_take->il,merge->bz,merge_perm_append->ii,merge_right->iu,nil_merge->ir,pairwise_map->ik
open Nat renaming succ_mul->ip
open Option renaming none->Z,some->J
open Or renaming inl->bm,inr->bj
namespace Go.Proofs.YtakkmiomhackiaaGreatDoor
open Go.RowKit
open Ending renaming returned->au
open IntKind renaming i32->dp,i64->K,u16->aw,u64->ac,wrap_u16->gj
open Lib renaming trimLeftB->bu,trimRightB->gl
open Obj renaming cells->bg
open Proofs renaming intOf->bk
open Fr renaming list->ew,object->cr
open Goes renaming C8->bp
open Keeps renaming A2->ej,A4->ah,A5->di
open Lx renaming whole->fz
open Pc renaming bad->ao,cut->bw,ok->aj
open Ps renaming C5->bx,C6->fd,C9->gq,D6->ee
open Rr renaming C5->ct,D8->gu,E4->dj
open Sz renaming B9->gz
open Tr renaming flag->et,object->gh
open ValAt renaming flag->eu
open Win renaming I6->gn
open aQ renaming A0->ei,A8->fm
open RowKit renaming Below->L
open Value renaming bool->ai,int->O,ownBlock->fw,slice->I,string->E,tuple->cg
open World renaming drewN->iq,drewN_drewN->fj
variable {c:UInt8}{B P cap cd dg e g hi n off s:Nat}{w w':G}{v:Q}{S:Oo}
def aJ0(n:Nat):Q:=O dp n
def aL5(n:Nat):Q:=O aw n
def aL6:Elem 394 21 4:=⟨underlying394,by
 have e:(af.info? 21).map (λi=>(i.zero,i.size,i.bytes))=J (J (O dp 0),1,4):=by kernel_rfl
 obtain⟨i,c,a,d,b⟩:=fq e;exact⟨i,_,c,a,d,b,rfl⟩⟩
def aLV:Elem 375 377 2:=⟨underlying375,by
 have e:(af.info? 377).map (λi=>(i.zero,i.size,i.bytes))=J (J (O aw 0),1,2):=by kernel_rfl
 obtain⟨i,c,a,d,b⟩:=fq e;exact⟨i,_,c,a,d,b,rfl⟩⟩
def eJ(l:List UInt8):List Nat:=match l with
 | []=> []
 | c::t=>match eC (c::t)with
  | .ok n=>bM ((c::t).take n)::eJ (t.drop (n-1))
  | _=> []
termination_by l.length
decreasing_by simp_wf;omega
def vH:eJ []= []:=by rw[eJ]
def sY{t:Oo}(a:eC (c::t)=aj (n+1)):eJ (c::t)=bM ((c::t).take (n+1))::eJ (t.drop n):=by
 rw[eJ,a];rfl
def vI:∀(N:Nat)(l:Oo),l.length<=N->aV l=U->gI l=(eJ l).flatMap dG/\(∀r∈eJ l,fM r)/\(eJ l).length<=l.length
 | _,[],_,_=>by rw[lS,vH];exact⟨rfl,by simp,by simp⟩
 | 0,_::_,j,_=>by simp at j
 | N+1,c::t,j,a=>by
  obtain⟨n,b,e,i⟩:=iN a;obtain⟨d,g,f⟩:=vI N (t.drop n) (by rw[ea];simp at j;omega) e;rw[iX b,sY b,d];refine⟨rfl,λr a=>?_,?_⟩
  .rcases List.mem_cons.1 a with rfl|a
   .exact aBD (mZ b).1
   .exact g r a
  .rw[ea]at f;simp only[cv];omega
def aDq{s:ByteArray}{i:Nat}(g:i<s.size)(c:aV (s.data.toList.drop i)=U):∃n,1<=n/\eC (s.data.toList.drop i)=aj n/\aV (s.data.toList.drop (i+n))=U/\i+n<=s.size/\
 eJ (s.data.toList.drop i)=bM ((s.data.toList.drop i).take n)::eJ (s.data.toList.drop (i+n)):=by
 have e:(s.data.toList.drop (i+1)).length=s.size-(i+1):=by rw[ea];simp
 rw[bA g]at c⊢;obtain⟨n,d,a,f⟩:=iN c;rw[lr,show i+1+n=i+(n+1) by omega]at a;have b:=sY d;rw[lr,show i+1+n=i+(n+1) by omega]at b;exact⟨n+1,by omega,d,a,by omega,b⟩
def Row.B8{r s:Type}{f:Nat}{enc:r->Q}{b:s->Q}{d:Q}{l:List r}{o:List s}(t:Row B e enc w v l)(j:Row g f b w d o)(n:e≠f):∀k,v.ownBlock=J k->¬d.ownBlock=J k:=by
 intro k m i;obtain⟨c,p⟩:=(gn t).D5 m;obtain⟨q,a⟩:=(gn j).D5 i;rw[p]at a;cases a;exact n rfl
def Row.M2{m:Type}{enc:m->Q}{l:List m}{F:Nat->Prop}(n:Row B e enc w v l)(f:Keeps F w w')(i:∀k,v.ownBlock=J k->¬F k):Row B e enc w' v l:=by
 refine⟨n.1,?_⟩;rcases n.2 with j|⟨g,cap,b,rfl,d,c,a⟩
 .exact bm j
 .exact bj ⟨g,cap,b,rfl,d,f.B4 c (i g rfl),a⟩
def Row.at{j:Type}{enc:j->Q}{a:Option cz}{k c:Nat}{l:List j}(f:Row B e enc w (I a k c) l){i:Nat}(hi:i<l.length):∃g,a=J ⟨g,0,Z⟩/\k=l.length/\w.cell? ⟨g,i,Z⟩=J (enc l[i]):=by
 rcases f.E3 with⟨_,rfl⟩|⟨g,cap,b,_,_,_,_,_,d⟩
 .simp at hi
 .cases b;exact⟨g,rfl,rfl,d i _ (bf hi)⟩
def aFg(w:G)(s:ByteArray)(r:s.size<=1073741824)(g:aV s.data.toList=U):ar af 243 #[s] w λe w'=>e=au (cg #[O K 0,O K 0])/\w'=w:=by
 have l:=A (show aV (s.data.toList.drop 0)=U from g);clear g;go_enter func243,ntmps243;go_wp2;go_loopw [4] (λv wr=>∃i:Nat,v=O K i/\i<=s.size/\M (aV (s.data.toList.drop i)=U)/\w=wr) (λv _=>s.size-(bk v).toNat)
 case atStart=>exact⟨0,rfl,dr _,l,rfl⟩
 case round=>
  obtain⟨i,rfl,hi,m,rfl⟩:=hrel;by_cases u:i<s.size
  .obtain⟨n,b,c,a,j,_⟩:=aDq u m.o;have d:=A (λW=>aBE W s i u (by omega));rw[c,aCY]at d;have k:(i:Int)<(s.size:Int):=(by omega);obtain⟨p,f⟩:∃p,i+n=p:=⟨_,rfl⟩;have t:K.wrap ((i:Int)+(n:Int))=(p:Int):=(by rw[b9];omega);rw[f]at a j;have o:=A a;have q:=A (show i<p by omega);clear c a f b;go_wp2_with fail;refine(d.o _).mono ?_;rintro e w2 ⟨rfl,rfl⟩;go_wp2_with fail;exact⟨⟨p,by go_num,j,o,trivial⟩,by have:=q.o;simp[bk];omega⟩
  .have k:¬(i:Int)<(s.size:Int):=(by omega);go_wp2_with fail;exact bb (v:=cg #[O K 0,O K 0]) (by simp[em,results243,go_sem]) rfl ⟨rfl,rfl⟩
def yN(w:G)(s:ByteArray)(b:s.size<=1073741824)(a:aV s.data.toList=U):ar af 225 #[s] w λe w'=>e=au (ai U)/\w'=w:=by
 have c:=A (λW=>aFg W s b a);clear a;go_enter func225,ntmps225;go_wp2_with fail;refine(c.o _).mono ?_;rintro e w2 ⟨rfl,rfl⟩;go_wp2;go_ret;exact⟨rfl,rfl⟩
def aFh(w:G)(s:ByteArray)(hs:s.size<=1073741824)(f:aV s.data.toList=U):ar af 244 #[s] w λe w'=>
 ∃a k c b m d,e=au (cg #[I a k c,I b m d])/\Row w.heap.size 21 aJ0 w' (I a k c) (eJ s.data.toList)/\L w w w':=by
 have HR:=A (show aV (s.data.toList.drop 0)=U from f);obtain⟨R,g⟩:∃R,eJ s.data.toList=R:=⟨_,rfl⟩;have HL:=A (show []++eJ (s.data.toList.drop 0)=R from g);rw[g];clear f g;go_enter func244,ntmps244;go_wp2;go_loopw [4,5,6] (λl t v wr=>∃(i:Nat)(T a0:List Nat),v=O K i/\i<=s.size/\M (aV (s.data.toList.drop i)=U)/\M (T++eJ (s.data.toList.drop i)=R)/\T.length<=i/\a0.length<=i/\Row w.heap.size 21 aJ0 wr l T/\Row w.heap.size 3 encI wr t a0/\L w w wr) (λ_ _ v _=>s.size-(bk v).toNat)
 case atStart=>exact⟨0,[],[],rfl,dr _,HR,HL,dr _,dr _,fv _ _ _ _,fv _ _ _ _,dk _ _⟩
 case round=>
  obtain⟨i,T,a0,rfl,hi,HK,y,B,C,q,z,g⟩:=hrel;by_cases a1:i<s.size
  .obtain⟨n,u,F,x,h3,P⟩:=aDq a1 HK.o;have V:=A (λW=>aBE W s i a1 (by omega));have j:=y.o;rw[P]at j;rw[F,aCY]at V;have q1:(i:Int)<(s.size:Int):=(by omega);obtain⟨p,S⟩:∃p,i+n=p:=⟨_,rfl⟩;have q2:K.wrap ((i:Int)+(n:Int))=(p:Int):=(by rw[b9];omega);rw[S]at x h3 j;obtain⟨r,f⟩:∃r,bM ((s.data.toList.drop i).take n)=r:=⟨_,rfl⟩;rw[f]at j V;have H2:=A x;have H:=A (show(T++ [r])++eJ (s.data.toList.drop p)=R by rw[<-j];simp);have X:=A (show i<p by omega);have Y:=g.size;have D:=A q;have N:=A z;have g1:=A g;have o:=A (And.intro B C);clear F x S u P j f q z g B C y;go_wp2_with fail;refine(V.o _).mono ?_;rintro e w2 ⟨rfl,rfl⟩;go_wp2_with (at_builtin;refine cV aL6 rfl _ _ rfl rfl (D.o.A5 _) ⟨w2.heap.size,0,Z⟩ 1 r rfl ?_ rfl ?_ ?_ ?_ ?_)
   .simp[aJ0]
   .have:=o.o;simp;omega
   .have:=o.o;simp;unfold co;omega
   .simp;omega
   intro b cap w3 u f;have F:=(g1.o.alloc Y (bg #[O dp r] 21)).grown f (by simp;omega) (λk hk=>(D.o.lt k hk).1);have B:=Row.M2 (N.o.A5 (bg #[O dp r] 21)) ((ah (λk=>fw _=J k) _).G0 f λk e=>bm e) (Row.B8 N.o D.o (by decide));have P:=A u;have x:=A B;have g2:=A F;have C:=F.size;clear u f B F;go_wp2_with (at_builtin;refine cV aCZ rfl _ _ rfl rfl (x.o.A5 _) ⟨w3.heap.size,0,Z⟩ 1 i rfl ?_ rfl ?_ ?_ ?_ ?_)
   .simp
   .have:=o.o;simp;omega
   .have:=o.o;simp;unfold co;omega
   .simp;omega
   intro b2 g3 w4 u f;have S:=(g2.o.alloc C (bg #[i] 3)).grown f (by simp;omega) (λk hk=>(x.o.lt k hk).1);have B:=Row.M2 (P.o.A5 (bg #[i] 3)) ((ah (λk=>fw _=J k) _).G0 f λk e=>bm e) (Row.B8 P.o x.o (by decide));have F:=A (And.intro u (And.intro B S));clear u f B S C;go_wp2_with fail;exact⟨⟨p,T++ [r],a0++ [i],by go_num,h3,H2,H,by have:=o.o;have:=X.o;simp;omega,by have:=o.o;have:=X.o;simp;omega,by simpa using F.o.2.1,by simpa using F.o.1,F.o.2.2⟩,by have:=X.o;simp[bk];omega⟩
  .have q1:¬(i:Int)<(s.size:Int):=(by omega);have j:=y.o;rw[cY a1,vH,jz]at j;subst j;obtain⟨a,c,rfl⟩:=q.A8;obtain⟨b,d,rfl⟩:=z.A8;have o:=A (And.intro q g);clear q z g y;go_wp2_with fail;exact bb (v:=cg #[I a T.length c,I b a0.length d]) (by simp[em,results244,go_sem]) rfl ⟨_,_,_,⟨_,_,_,rfl⟩,o.o.1,o.o.2⟩
def aLg(p:Ps)(P s:Nat)(S:List UInt8)(l:List UInt8):Pc (List UInt8×Nat)->Pc (Ps×List UInt8)->Prop
 | .cut,o=>o=bw
 | .bad no a,o=>o=ao no (P+a)
 | .ok x,o=>1<=x.2/\x.2<=l.length/\∃dg cd,o=aj (p.D0 (aK ae (P+x.2) s [] (S++x.1) dg cd 0),l.drop x.2)
def oL{a:Bool}:∀{m n v:Nat}{l:Oo},cX a m n l=aj v->m<=l.length
 | 0,_,_,_,_=>dr _
 | m+1,_,_,[],d=>by unfold cX at d;cases d
 | m+1,n,v,c::l,d=>by
  unfold cX at d;cases b:hexOf c with
  | none=>rw[b]at d;cases d
  | some x=>
   rw[b]at d;simp only at d;split at d
   .cases d
   .have:=oL d;rw[cv];omega
def aDc{f:Form}:∀{m i n:Nat}{l:Oo},cJ f m i l=aj n->n=i+m/\m<=l.length
 | 0,_,_,_,d=>by unfold cJ at d;cases d;exact⟨rfl,dr _⟩
 | m+1,_,_,[],d=>by unfold cJ at d;cases d
 | m+1,i,n,c::l,d=>by
  unfold cJ at d;split at d
  .obtain⟨b,a⟩:=aDc d;rw[cv];omega
  .cases d
def aDd{l:Oo}(d:eC (c::l)=aj n):1<=n/\n<=(c::l).length:=by
 unfold eC at d;simp only at d;split at d
 .cases d
 .obtain⟨b,a⟩:=aDc d;rw[cv];omega
def aAe:(aK dh P s [] S dg cd 0).B5 117=⟨aK dt P s [] S 0 0 0,[],0⟩:=rfl
def aAf{b:UInt8}(d:c≠117)(a:cO c=J b):(aK dh P s [] S dg cd 0).B5 c=⟨aK ae P s [] (S++ [b]) dg cd 0,[],0⟩:=by
 show dN _ c=_;unfold dN;rw[py d,a]
def wC(b:c≠117)(a:cO c=Z):(aK dh P s [] S dg cd 0).B5 c=⟨aK dh P s [] S dg cd 0,[],92⟩:=by
 show dN _ c=_;unfold dN;rw[py b,a]
def aBK:(aK du P s [] S dg cd hi).B5 92=⟨aK eo P s [] S dg cd hi,[],0⟩:=rfl
def x8(a:c≠92):(aK du P s [] S dg cd hi).B5 c=⟨aK du P s [] S dg cd hi,[],93⟩:=by
 show fD _ c=_;unfold fD;rw[py a]
def yA:(aK eo P s [] S dg cd hi).B5 117=⟨aK dt P s [] S 0 0 hi,[],0⟩:=rfl
def uF(a:c≠117):(aK eo P s [] S dg cd hi).B5 c=⟨aK eo P s [] S dg cd hi,[],93⟩:=by
 show dS _ c=_;unfold dS;rw[py a]
def aJW(p:Ps)(P s n dg cd:Nat)(S l:Oo)(g:n≠0)(q:s<P)(f:P+6+l.length<=16777216):
 ∃o,Goes (p.D0 (aK du (P+6) s [] S dg cd n)) l o/\match qN n l with
  | .cut=>o=bw
  | .bad no a=>o=ao no (P+a)
  | .ok x=>x.2=12/\6<=l.length/\∃dg cd,o=aj (p.D0 (aK ae (P+12) s [] (S++x.1) dg cd 0),l.drop 6):=by
 cases l with
 | nil=>exact⟨bw,kB p rfl rfl,rfl⟩
 | cons c t=>
  rw[cv]at f;unfold qN;simp only;by_cases r:c=92
  .subst r;rw[pz rfl];have e:=eG p (aBK (P:=P+6) (s:=s) (S:=S) (dg:=dg) (cd:=cd) (hi:=n)) (show P+6<16777216 by omega) rfl (show s<P+6 by omega);cases t with
   | nil=>exact⟨bw,bp e rfl (kB p rfl rfl),rfl⟩
   | cons d u=>
    rw[cv]at f;simp only;by_cases b:d=117
    .subst b;rw[pz rfl];have m:=eG p (yA (P:=P+6+1) (s:=s) (S:=S) (dg:=dg) (cd:=cd) (hi:=n)) (show P+6+1<16777216 by omega) rfl (show s<P+6+1 by omega);have j:=uE p (P+8) s U n (by simp[g]) S (by omega) 3 0 u (hU _) (by omega);refine⟨_,bp e rfl (bp m rfl j),?_⟩;cases k:cX U (3+1) 0 u with
     | cut=>rfl
     | bad no a=>show ao no (P+8+a)=ao no (P+(8+a));rw[fo]
     | ok v=>
      have:=oL k;refine⟨rfl,by simp;omega,4,v,?_⟩;show aj _=_
      have i:{(aK dt (P+8) s [] S 4 v n).whole with a:=P+8+4}=aK ae (P+12) s [] (S++aT (65536+(n-55296)*1024+v-56320)) 4 v 0:=by
       unfold fz;rw[pz g]
      rw[i];simp
    .rw[py b];exact⟨_,bp (o:=ao 93 (P+6+1)) e rfl (gX (eZ p (uF b) (show P+6+1<16777216 by omega) (by decide) (by decide))),rfl⟩
  .rw[py r];exact⟨ao 93 (P+6),gX (eZ p (x8 r) (show P+6<16777216 by omega) (by decide) (by decide)),rfl⟩
def aJX(p:Ps)(P s dg cd:Nat)(S l:Oo)(r:s<P)(q:P+1+l.length<=16777216):
 ∃o,Goes (p.D0 (aK dh (P+1) s [] S dg cd 0)) l o/\match jG l with
  | .cut=>o=bw
  | .bad no a=>o=ao no (P+a)
  | .ok x=>2<=x.2/\x.2<=l.length+1/\∃dg cd,o=aj (p.D0 (aK ae (P+x.2) s [] (S++x.1) dg cd 0),l.drop (x.2-1)):=by
 cases l with
 | nil=>exact⟨bw,kB p rfl rfl,rfl⟩
 | cons c t=>
  rw[cv]at q;unfold jG;simp only;by_cases y:c=117
  .subst y;rw[pz rfl];have e:=eG p (aAe (P:=P+1) (s:=s) (S:=S) (dg:=dg) (cd:=cd)) (show P+1<16777216 by omega) rfl (show s<P+1 by omega);have d:=uE p (P+2) s Hf 0 rfl S (by omega) 3 0 t (hU _) (by omega);cases f:cX Hf (3+1) 0 t with
   | cut=>rw[f]at d;exact⟨bw,bp e rfl d,rfl⟩
   | bad no a=>rw[f]at d;exact⟨_,bp e rfl d,by show ao no (P+2+a)=ao no (P+(2+a));rw[fo]⟩
   | ok n=>
    rw[f]at d;have w:=oL f;show ∃o,_/\match(if n<55296\/56319<n then aj (aT n,6)else qN n (t.drop 4))with| .cut=>_| .bad no a=>_| .ok x=>_
    by_cases k:n<55296\/56319<n
    .rw[pz k]
     have i:{(aK dt (P+2) s [] S 4 n 0).whole with a:=P+2+4}=aK ae (P+6) s [] (S++aT n) 4 n 0:=by
      unfold fz;rw[py (λy=>y rfl),py (by show ¬(55296<=n/\n<=56319);omega)]
     simp only[i]at d;exact⟨_,bp e rfl d,(show 2<=6 by decide),by simp;omega,4,n,by simp⟩
    .rw[py k]
     have i:{(aK dt (P+2) s [] S 4 n 0).whole with a:=P+2+4}=aK du (P+6) s [] S 4 n n:=by
      unfold fz;rw[py (λy=>y rfl),pz (by show 55296<=n/\n<=56319;omega)]
     simp only[i]at d;obtain⟨o,m,u⟩:=aJW p P s n 4 n S (t.drop 4) (by omega) r (by simp;omega);refine⟨o,bp e rfl (Goes.S7 d ?_ m),?_⟩
     .show P+6+(t.drop 4).length=P+1+1+t.length;rw[ea];omega
     .revert u;cases qN n (t.drop 4)with
      | cut=>exact id
      | bad no a=>exact id
      | ok x=>
       rintro⟨g,v,dg,cd,y⟩;rw[ea]at v;refine⟨by omega,by simp;omega,dg,cd,?_⟩;rw[y,g];simp
  .rw[py y];cases j:cO c with
   | none=>exact⟨ao 92 (P+1),gX (eZ p (wC y j) (show P+1<16777216 by omega) (by decide) (by decide)),rfl⟩
   | some b=>
    refine⟨aj _,bp (eG p (aAf (P:=P+1) (s:=s) (S:=S) (dg:=dg) (cd:=cd) y j) (show P+1<16777216 by omega) rfl (show s<P+1 by omega)) rfl (o:=aj (p.D0 (aK ae (P+1+1) s [] (S++ [b]) dg cd 0),t)) ⟨rfl,id⟩,hU _,by simp,dg,cd,rfl⟩
def aE8(p:Ps)(P s dg cd:Nat)(S:Oo)(c:UInt8)(l:Oo)(j:c≠34)(i:s<P)(m:P+(c::l).length<=16777216):
 ∃o,Goes (p.D0 (aK ae P s [] S dg cd 0)) (c::l) o/\aLg p P s S (c::l) (eX (c::l)) o:=by
 unfold eX;simp only;have g:=m;rw[cv]at m;by_cases b:c=92
 .subst b;rw[pz rfl];have t:(p.D0 (aK ae P s [] S dg cd 0)).B3 po 92=.ok (p.D0 {(aK dh P s [] S dg cd 0)with a:=P+1}):=eG p rfl (show P<16777216 by omega) rfl i;obtain⟨o,u,v⟩:=aJX p P s dg cd S l i (by omega);refine⟨o,bp t rfl u,?_⟩;revert v;cases jG l with
  | cut=>exact id
  | bad no a=>exact id
  | ok x=>
   rintro⟨b,z,dg,cd,C⟩;refine⟨by omega,by rw[cv];omega,dg,cd,?_⟩;rw[C];congr 2;obtain⟨B,q⟩:=x;obtain⟨k,rfl⟩:∃k,q=k+1:=⟨q-1,by simp only at b;omega⟩;rfl
 .rw[py b];by_cases e:c.toNat<32
  .rw[pz e];refine⟨ao 91 P,gX (eZ p (x:=aK ae P s [] S dg cd 0) (y:=aK ae P s [] S dg cd 0) (no:=91) ?_ (show P<16777216 by omega) (by decide) (by decide)),rfl⟩;show bY _ c=_;unfold bY;rw[py (λC=>j C.2),py (λC=>b C.2),pz ⟨rfl,e⟩]
  .rw[py e];have d:=aHE p P s dg cd c l S j b e i g;cases f:eC (c::l)with
   | cut=>rw[f]at d;exact⟨bw,d,rfl⟩
   | bad no a=>rw[f]at d;exact⟨_,d,by show ao no (P+a)=ao no (P+(0+a));rw[jw]⟩
   | ok n=>
    rw[f]at d;obtain⟨r,w⟩:=aDd f;refine⟨_,d,r,w,dg,cd,?_⟩;congr 2;obtain⟨k,rfl⟩:∃k,n=k+1:=⟨n-1,by omega⟩;rfl
def aAX(p:Ps)(b s:Nat)(B:s<=b):∀(N:Nat)(l S:Oo)(i dg cd:Nat),l.length<=N->1<=i->b+i+l.length<=16777216->
 match cM S i l with
  | .cut=>Goes (p.D0 (aK ae (b+i) s [] S dg cd 0)) l bw
  | .bad no a=>Goes (p.D0 (aK ae (b+i) s [] S dg cd 0)) l (ao no (b+a))
  | .ok x=>i<x.2/\x.2<=i+l.length/\∃e d,Goes (p.D0 (aK ae (b+i) s [] S dg cd 0)) l (aj (p.D0 (aK ae (b+x.2-1) s [] x.1 e d 0),34::l.drop (x.2-i)))
 | N,[],S,i,dg,cd,_,_,_=>by
  rw[cM];exact kB p rfl rfl
 | 0,c::l,_,_,_,_,R,_,_=>by simp at R
 | N+1,c::l,S,i,dg,cd,D,hi,u=>by
  rw[cM];by_cases R:c=34
  .subst R;rw[pz rfl];refine⟨Nat.lt_succ_self _,by rw[cv];show i+1<=_;omega,dg,cd,?_⟩;show Goes _ _ (aj (p.D0 (aK ae (b+(i+1)-1) s [] S dg cd 0),34::(34::l).drop (i+1-i)));rw[Nat.add_sub_cancel_left,<-fo,mg];exact⟨rfl,id⟩
  .rw[py R];obtain⟨o,q,r⟩:=aE8 p (b+i) s dg cd S c l R (by omega) u;revert r;cases P:eX (c::l)with
   | cut=>rintro rfl;exact q
   | bad no a=>rintro rfl;show Goes _ _ (ao no (b+(i+a)));rw[<-fo];exact q
   | ok x=>
    rintro⟨z,w,e,d,rfl⟩;obtain⟨t,v⟩:=x;obtain⟨k,rfl⟩:∃k,v=k+1:=⟨v-1,by simp only at z;omega⟩;simp only[cv]at w;rw[cv]at D u;simp only[mg]
    have g:Goes (p.D0 (aK ae (b+i) s [] S dg cd 0)) (c::l) (aj (p.D0 (aK ae (b+(i+(k+1))) s [] (S++t) e d 0),l.drop k)):=by
     rw[<-fo];exact q
    have f:b+(i+(k+1))+(l.drop k).length=b+i+(c::l).length:=(by rw[ea,cv];omega);have C:=aAX p b s B N (l.drop k) (S++t) (i+(k+1)) e d (by rw[ea];omega) (by omega) (by rw[ea];omega);revert C;cases cM (S++t) (i+(k+1)) (l.drop k)with
    | cut=>exact λR=>Goes.S7 g f R
    | bad no a=>exact λR=>Goes.S7 g f R
    | ok y=>
     rintro⟨H,F,j,n,R⟩;rw[ea]at F;refine⟨by omega,by rw[cv];omega,j,n,?_⟩;have:=Goes.S7 g f R;rw[lr]at this;obtain⟨m,r⟩:∃m,y.2-i=m+1:=⟨y.2-i-1,by omega⟩;rw[r,kw];rw[show k+(y.2-(i+(k+1)))=m by omega]at this;exact this
def tX(w:G)(j:Nat)(s:ByteArray)(d i q:Nat)(r:Rr)(S:aU w j s d i r q)(c:Bnd r d)(a:ByteArray)(l:a=⟨#[110,117,108,108]⟩\/a=⟨#[116,114,117,101]⟩\/a=⟨#[102,97,108,115,101]⟩)(hi:i<=s.size)(hs:s.size<=16777216):
 ar af 107 #[.pointer j,a] w λe w'=>qC w j s d i (r.M8 d a.data.toList (s.data.toList.drop i)) e w':=by
 have f:=A (sH w j s d i q r S (by omega) c.h c.e c.g);have b:j<w.heap.size:=by obtain⟨P,g7,V,Y,bi,tx,a1,n1,m1,a2,n2,m2,hb,-⟩:=S;exact lt_of_block hb
 have g:r.M8 d a.data.toList (s.data.toList.drop i)=match r.D4 d with
  | .error no=>.bad no 0
  | .ok r=>if alike a.data.toList (s.data.toList.drop i)<a.data.toList.length/\alike a.data.toList (s.data.toList.drop i)<(s.data.toList.drop i).length then .bad 120 (alike a.data.toList (s.data.toList.drop i))else if alike a.data.toList (s.data.toList.drop i)<a.data.toList.length then .cut else .on (alike a.data.toList (s.data.toList.drop i)) (r.C5 (jE a.data.toList)):=by
  unfold Rr.M8 Rr.E6;cases r.D4 d<;>rfl
 rw[g];have u:=A b;have HW:=A l;have h0:a.size<=5:=by rcases l with rfl|rfl|rfl<;>decide
 clear g l;cases g:r.D4 d with
 | error no=>
  rw[g]at f;clear S g b;go_enter func107,ntmps107;go_wp2_with fail;refine f.o.mono ?_;rintro e w1 ⟨F,rfl,o⟩;have m:=A (And.intro F o);clear F o;go_wp2;go_ret;exact⟨m.o.1.A6 (iF u.o) λk e=>by omega,rfl,m.o.2⟩
 | ok r2=>
  have l:=aBC c g;rw[g]at f;obtain⟨T,B⟩:∃T,alike a.data.toList (s.data.toList.drop i)=T:=⟨_,rfl⟩;have HA:=A (show 0+alike (a.data.toList.drop 0) (s.data.toList.drop (i+0))=T by simpa using B);have x:a.data.toList.length=a.size:=by simp
  have y:(s.data.toList.drop i).length=s.size-i:=by simp
  simp only[B,x,y];obtain⟨R,C⟩:∃R,(if T<a.size/\T<s.size-i then Ra.bad 120 T else if T<a.size then .cut else .on T (r2.C5 (jE a.data.toList)))=R:=⟨_,rfl⟩;rw[C];have g8:=A l;clear S g b B x y c l;go_enter func107,ntmps107;go_wp2_with fail;refine f.o.mono ?_;rintro e w1 ⟨F,rfl,b⟩;have H:=A (F.A6 (iF u.o) λk e=>by omega);have y:=A b;clear F b f;go_wp2;go_loopw [5] (λv wr=>∃k:Nat,v=O K k/\k<=a.size/\i+k<=s.size/\M (k+alike (a.data.toList.drop k) (s.data.toList.drop (i+k))=T)/\Keeps (λ_=>False) w1 wr) (λv _=>a.size-(bk v).toNat)
  case atStart=>exact⟨0,rfl,dr _,hi,HA,ah _ _⟩
  case round=>
   obtain⟨k,rfl,F,hp,x,g⟩:=hrel;obtain⟨p,b⟩:∃p,i+k=p:=⟨_,rfl⟩;obtain⟨c0,c2,cf⟩:=(y.o.C8 g).cells;have l:=A g;have q1:K.wrap ((i:Int)+(k:Int))=(p:Int):=(by rw[b9];omega);have c:=x.o;rw[b]at c hp;by_cases D:k<a.size
   .have e1:(k:Int)<(a.size:Int):=(by omega);by_cases h2:p<s.size
    .have e2:(p:Int)<(s.size:Int):=(by omega);by_cases B:a[k]=s[p]
     .have e3:(((s[p].toNat:Nat):Int)==((a[k].toNat:Nat):Int))=U:=(by rw[B];simp);rw[sI (by simpa using D) h2,pz (by rw[ga];exact B)]at c;have N:=A (show(k+1)+alike (a.data.toList.drop (k+1)) (s.data.toList.drop (i+(k+1)))=T by rw[<-c,<-b];rw[show i+(k+1)=i+k+1 by omega];omega);have q2:K.wrap ((k:Int)+1)=(k:Int)+1:=(by rw[b9];omega);have f:=A (show k+1<=a.size/\i+(k+1)<=s.size from⟨by omega,by omega⟩);clear B c g b x;go_wp2;go_quiet (fail);go_wp2;go_roundw
      case rel=>exact⟨k+1,by go_num,f.o.1,f.o.2,N,l.o.K9 rfl rfl rfl rfl⟩
      case measure=>have:=f.o;simp[bk];omega
     .have e3:(((s[p].toNat:Nat):Int)==((a[k].toNat:Nat):Int))=Hf:=by
       have:¬s[p].toNat=a[k].toNat:=λe=>B (kb e.symm);simp;omega
      rw[sI (by simpa using D) h2,py (by rw[ga];exact B),lv]at c;subst c;rw[pz ⟨D,by omega⟩]at C;subst C;have f:=A b;clear B g b x;go_wp2;go_quiet (fail);go_wp2;go_quiet (fail);go_wp2_with fail
      have g9:=A (λn=>show ar af 76 #[.pointer j,O K 120,O K p,O K p] (wr.drewN n) (λe w'=>e=au (cg #[])/\Keeps (λk=>k=j) (wr.drewN n) w'/\qB w' j 120 p/\w'.cell? ⟨j,2,Z⟩=J (O K i))from by
       obtain⟨P,g7,V,Y,bi,tx,a1,n1,m1,a2,n2,m2,hb,-⟩:=y.o.C8 (l.o.L5 n);exact(sG (wr.drewN n) j 120 p p _ _ _ _ _ _ _ _ _ _ _ _ _ hb).mono λe w' ⟨D,h2,B⟩=>⟨D,h2,⟨_,_,_,_,_,_,_,_,_,_,_,_,_,_,_,_,_,p,by omega,B⟩,(dF B).1.2.2.1⟩)
      go_region_held3 (λw'=>w'.cell? ⟨j,2,Z⟩=J (O K i)) (first|with_reducible exact hS|go_keep) ((go_at_call 76;(refine(g9.o _).mono ?_);rintro e w2 ⟨rfl,N,o,hS⟩))
      all_goals
       have m:=A (And.intro N o);clear N o;go_wp2;go_ret;exact⟨H.o.trans ((((l.o.L5 _).mono λ_ S=>S.elim).same m.o.1).A6 (iF (a7 u.o H.o.size)) λk e=>by omega),rfl,by rw[f.o];exact m.o.2⟩
    .have e2:¬(p:Int)<(s.size:Int):=(by omega);rw[pI (by omega),lv]at c;subst c;rw[py,pz D]at C;subst C;clear g b x;go_wp2;go_quiet (fail);go_wp2;go_quiet (fail);go_wp2;go_ret;exact⟨H.o.trans ((l.o.L5 _).A6 (iF (a7 u.o H.o.size)) λk e=>e.elim),rfl,r2,q,y.o.C8 (l.o.L5 _)⟩
   .have e1:¬(k:Int)<(a.size:Int):=(by omega);rw[pI (by simp;omega),lv]at c;subst c;rw[py,py D]at C;subst C;have B:k=a.size:=(by omega);have f:=A (And.intro b B);clear g b x
    have x:=A (λ(z:Int)(hz:z=(p:Int))(X:G)(N:Keeps (λ_=>False) (wr.setCell ⟨j,2,Z⟩ (O K z)) X)(V:Int)(Y:Bool)(t:Tr)(hv:∀W,ValAt (λk=>q<=k) W (eQ V Y 0 ⟨#[]⟩ (I Z 0 0) (I Z 0 0)) t)=>
     show _/\L j w X from⟨oG X j s d p q r2 (((y.o.C8 l.o).B5 p z hz).C8 N) g8.o V Y 0 ⟨#[]⟩ Z 0 0 Z 0 0 t (hv X),H.o.trans (((((l.o.mono λ_ S=>S.elim:Keeps (λk=>k=j) w1 wr)).own 2 (O K z)).trans N λ_ S=>S.elim).A6 (iF (a7 u.o H.o.size)) λk e=>by omega)⟩)
    rcases HW.o with rfl|rfl|rfl
    .go_wp2;go_quiet (fail);go_wp2;go_quiet (fail);go_wp2_with fail;refine(x.o ((i:Int)+4) (by have:=f.o;rw[<-this.1,this.2];rfl) _ (by exact(di (ah _ (wr.setCell _ _)) _).K9 rfl rfl rfl rfl) 1 Hf .null (λ_=>.null)).1.mono ?_;rintro e w5 ⟨rfl,g,b⟩;have m:=A (And.intro g b);clear g b;go_wp2;go_ret;exact⟨(x.o ((i:Int)+4) (by have:=f.o;rw[<-this.1,this.2];rfl) _ (by exact(di (ah _ (wr.setCell _ _)) _).K9 rfl rfl rfl rfl) 1 Hf .null (λ_=>.null)).2.trans m.o.1,rfl,by have o:=f.o.1;rw[f.o.2]at o;have o:i+4=p:=o;rw[o];exact m.o.2⟩
    .go_wp2;go_quiet (fail);go_wp2;go_quiet (fail);go_wp2_with fail;refine(x.o ((i:Int)+4) (by have:=f.o;rw[<-this.1,this.2];rfl) _ (by exact(di (ah _ (wr.setCell _ _)) _).K9 rfl rfl rfl rfl) 2 U (et U) (λ_=>(eu U))).1.mono ?_;rintro e w5 ⟨rfl,g,b⟩;have m:=A (And.intro g b);clear g b;go_wp2;go_ret;exact⟨(x.o ((i:Int)+4) (by have:=f.o;rw[<-this.1,this.2];rfl) _ (by exact(di (ah _ (wr.setCell _ _)) _).K9 rfl rfl rfl rfl) 2 U (et U) (λ_=>(eu U))).2.trans m.o.1,rfl,by have o:=f.o.1;rw[f.o.2]at o;have o:i+4=p:=o;rw[o];exact m.o.2⟩
    .go_wp2;go_quiet (fail);go_wp2;go_quiet (fail);go_wp2_with fail;refine(x.o ((i:Int)+5) (by have:=f.o;rw[<-this.1,this.2];rfl) _ (by exact(di (ah _ (wr.setCell _ _)) _).K9 rfl rfl rfl rfl) 2 Hf (et Hf) (λ_=>(eu Hf))).1.mono ?_;rintro e w5 ⟨rfl,g,b⟩;have m:=A (And.intro g b);clear g b;go_wp2;go_ret;exact⟨(x.o ((i:Int)+5) (by have:=f.o;rw[<-this.1,this.2];rfl) _ (by exact(di (ah _ (wr.setCell _ _)) _).K9 rfl rfl rfl rfl) 2 Hf (et Hf) (λ_=>(eu Hf))).2.trans m.o.1,rfl,by have o:=f.o.1;rw[f.o.2]at o;have o:i+5=p:=o;rw[o];exact m.o.2⟩
section
def jM(f:RFr):Fr:=if f.object then cr f.a else ew f.c.length
def aGU(l:List RFr):Prop:=∀f∈l.dropLast,f.object=U->f.a.length=f.c.length+1
def aGV(l:List RFr)(want:Nat):Prop:=∀f,l.getLast?=J f->f.object=U->f.a.length=f.c.length+(if want=4\/want=0 then 1 else 0)
def iG{l:List RFr}{f:RFr}:aGU (l++ [f])<->∀g∈l,g.object=U->g.a.length=g.c.length+1:=by unfold aGU;rw[ge]
def rD{l:List RFr}{f:RFr}{w:Nat}:aGV (l++ [f]) w<->(f.object=U->f.a.length=f.c.length+(if w=4\/w=0 then 1 else 0)):=by
 unfold aGV;rw[show(l++ [f]).getLast?=J f by simp];exact⟨λb=>b f rfl,λb g a=>by cases a;exact b⟩
structure Al(p:Ps)(r:Rr)(d:Nat):Prop where
 h:p.h=d
 b:p.b=r.b
 g:p.g=r.g
 bytes:p.bytes=r.bytes
 e:p.e=r.e.map jM
 c:p.c=r.e.flatMap (λf=>f.c)++(if r.b=6 then [r.done]else [])
 low:aGU r.e
 a:aGV r.e r.b
section
variable {p:Ps} {r:Rr} {d:Nat}
def Al.D0(a:Al p r d)(x:Lx):Al (p.D0 x) r d:=⟨a.h,a.b,a.g,a.bytes,a.e,a.c,a.low,a.a⟩
def Al.O9(a:Al p r d):p.e.length=r.e.length:=by rw[a.e,List.length_map]
def Al.C9(t:Al p r d)(ok:cH p 0)(a:Nat):match r.D4 d with
 | .error no=>p.C9 a=.error (no,a)
 | .ok g=>p.C9 a=.ok {p with g:=p.g+1}/\g={r with g:=r.g+1}/\(r.b=0\/r.b=1)/\cH {p with g:=p.g+1} 1:=by
 have n:=ok.c;have l:=ok.g;have q:=t.O9;have m:=t.h;have o:=t.g;have s:=t.b;cases b:p.C9 a with
 | ok y=>
  have j:=ok.C9 b;unfold gq at b;unfold Rr.D4;split at b
  .cases b
  .rename_i c1;split at b
   .cases b
   .rename_i c2;split at b
    .cases b
    .rename_i k;rw[py,py,py];obtain⟨f,i,c⟩:=j;rw[<-c];exact⟨c▸rfl,rfl,by omega,f⟩
 | error e=>
  unfold gq at b;unfold Rr.D4;split at b
  .rename_i c1;cases b;rw[pz]
  .rename_i c1;split at b
   .rename_i c2;cases b;rw[py,pz]
   .rename_i c2;split at b
    .rename_i k;cases b;rw[py,py,pz]
    .cases b
def Al.N5(a:Al p r d):Al {p with g:=p.g+1} {r with g:=r.g+1} d:=⟨a.h,a.b,by show p.g+1=r.g+1;rw[a.g],a.bytes,a.e,a.c,a.low,a.a⟩
def aKk(f:RFr)(t:Tr):more [jM f]= [jM {f with c:=f.c++ [t]}]:=by
 unfold jM;by_cases a:f.object
 .simp only[a,if_true];rfl
 .simp only[a];simp[more]
def aDA(l:List Fr)(f:Fr):more (l++ [f])=l++more [f]:=by
 cases f with
 | list n=>rw[mC];rfl
 | object k=>rw[j9];rfl
def cE{b:Type}(l:List b)(a:b):(l++ [a]).getLast?=J a:=by simp
def Al.C5(s:Al p r d)(q:r.b=0\/r.b=1)(g:∀f,r.e.getLast?=J f->f.object=U->r.b=0)(t:Tr):Al (bx {p with c:=p.c++ [t]}) (r.C5 t) d:=by
 have j:¬r.b=6:=by omega
 have b:=s.e;have c:=s.c;have o:=s.low;have m:=s.a;rw[py j,jz]at c;rcases lp r.e with a|⟨e,f,a⟩
 .rw[a]at b c;have b:p.e= []:=b;have c:p.c= []:=c;have l:r.C5 t={r with done:=t,b:=6}:=by unfold ct;rw[a];rfl
  rw[l];refine⟨s.h,?_,s.g,s.bytes,?_,?_,?_,?_⟩
  .show(if p.e= []then 6 else 5)=6;rw[pz b]
  .show more p.e=r.e.map jM;rw[b,a];rfl
  .show p.c++ [t]=r.e.flatMap _++(if 6=6 then [t]else []);rw[c,a];rfl
  .show aGU r.e;rw[a];intro f k;simp at k
  .show aGV r.e 6;rw[a];intro f k;simp at k
 .rw[ls]at a;have l:r.C5 t={r with e:=e++ [{f with c:=f.c++ [t]}],b:=5}:=by unfold ct;rw[a,cE];simp
  rw[a]at b c o m;rw[l];have i:¬p.e= []:=by rw[b];simp
  refine⟨s.h,?_,s.g,s.bytes,?_,?_,?_,?_⟩
  .show(if p.e= []then 6 else 5)=5;rw[py i]
  .show more p.e=(e++ [_]).map jM;rw[b,kr,kr,oq,aDA,aKk f t];rfl
  .show p.c++ [t]=(e++ [_]).flatMap _++(if 5=6 then [r.done]else []);rw[c];simp
  .exact iG.2 (iG.1 o)
  .refine rD.2 λn=>?_;have:=m f (cE _ _) n;rw[pz (bj (g f (by rw[a];exact cE _ _) n))]at this;show f.a.length=(f.c++ [t]).length+(if 5=4\/5=0 then 1 else 0);rw[cn];simp;omega
def Al.F8(i:Al p r d)(c:cH p 1){t:Tr}{b:Nat}(e:t.A9=⟨1,b,1⟩)(g:jK p.c+b+fW p.e<=p.bytes)(a:∀f,r.e.getLast?=J f->f.object=U->r.b=0):Al (bx {p with c:=bB p.c t}) (r.C5 t) d:=by
 rw[(c.F8 e g).1];exact i.C5 (by have:=c.e;have:=i.b;omega) a t
def Al.U9(q:Al p r d)(b:fB p.h p.b p.e p.c)(o:r.b=0\/r.b=1):∀f,r.e.getLast?=J f->f.object=U->r.b=0:=by
 intro f j l;have i:=q.e;have g:=q.b;have a:p.e.getLast?=J (cr f.a):=by rw[i,fc,j];simp[jM,l]
 revert a;generalize p.e=e at b;generalize p.c=c at b;generalize p.b=want at b g;cases b with
 | new=>intro a;simp at a
 | done t m=>intro a;simp at a
 | list s _ _ _ _=>intro a;rw[cE]at a;cases a
 | object k s _ _ _ n=>intro _;omega
def Al.E4(a:Al p r d):r.E4=jB p.e:=by
 unfold dj jB;rw[a.e,fc];cases r.e.getLast? with
 | none=>rfl
 | some f=>show f.object=_;simp only[ng];unfold jM;cases f.object<;>rfl
def Al.D8(c:Al p r d)(a:r.E4=U):r.D8=fP p.e:=by
 unfold dj at a;unfold gu fP;rw[c.e,fc];cases b:r.e.getLast? with
 | none=>rfl
 | some f=>rw[b]at a;have a:f.object=U:=a;simp[jM,a]
def Al.N1(q:Al p r d)(o:r.b=2\/r.b=3)(c:r.E4=U)(s:Oo):Al {p with e:=p.e.dropLast++ [cr (fP p.e++ [s])],b:=4} (r.N1 s) d:=by
 have i:=q.D8 c;rcases lp r.e with a|⟨b,f,a⟩
 .unfold dj at c;rw[a]at c;cases c
 .rw[ls]at a;have e:f.object=U:=by unfold dj at c;rw[a,cE]at c;exact c
  have n:r.N1 s={r with e:=b++ [{f with a:=f.a++ [s]}],b:=4}:=by unfold Rr.N1;rw[a,cE];simp
  have l:r.D8=f.a:=by unfold gu;rw[a,cE]
  have j:=q.e;have g:=q.c;have k:=q.low;have m:=q.a f (by rw[a];exact cE _ _) e;rw[py]at m;rw[py,jz]at g;rw[a]at j g k;rw[n,<-i,l];refine⟨q.h,rfl,q.g,q.bytes,?_,?_,?_,?_⟩
  .show p.e.dropLast++ [_]=(b++ [_]).map jM;rw[j,kr,kr,oq,ge];simp[jM,e]
  .show p.c=(b++ [_]).flatMap _++(if 4=6 then [r.done]else []);rw[g];simp
  .exact iG.2 (iG.1 k)
  .refine rD.2 λ_=>?_;show(f.a++ [s]).length=f.c.length+(if 4=4\/4=0 then 1 else 0);rw[cn];simp;omega
def Al.O3(n:Al p r d)(m:r.b=0\/r.b=1)(e:∀f,r.e.getLast?=J f->f.object=U->r.b=0)(o:Bool):
 Al {p with e:=p.e++ [if o then cr []else ew 0],b:=if o then 2 else 1} {r with e:=r.e++ [⟨o,[],[]⟩],b:=if o then 2 else 1} d:=by
 have k:=n.c;rw[py,jz]at k;refine⟨n.h,rfl,n.g,n.bytes,?_,?_,?_,?_⟩
 .show p.e++ [_]=(r.e++ [_]).map jM;rw[n.e,kr];cases o<;>rfl
 .show p.c=(r.e++ [_]).flatMap _++(if(if o then 2 else 1)=6 then [r.done]else []);rw[k,py (by cases o<;>decide)];simp
 .refine iG.2 λg a i=>?_;rcases lp r.e with b|⟨l,f,b⟩
  .rw[b]at a;simp at a
  .rw[ls]at b;have j:r.e.getLast?=J f:=(by rw[b];exact cE _ _);rw[b]at a;rcases mj.1 a with a|a
   .have c:=n.low;rw[b]at c;exact iG.1 c g a i
   .simp at a;subst a;have:=n.a g j i;rwa[pz (bj (e g j i))]at this
 .refine rD.2 λ_=>?_;show 0=0+(if(if o then 2 else 1)=4\/(if o then 2 else 1)=0 then 1 else 0);cases o<;>rfl
def Al.N2(j:Al p r d){n:Nat}(i:n≠6)(g:r.b≠6)(a:(if n=4\/n=0 then 1 else 0)=(if r.b=4\/r.b=0 then 1 else 0)\/r.E4=Hf):Al {p with b:=n} {r with b:=n} d:=by
 have e:=j.c;rw[py g]at e;refine⟨j.h,rfl,j.g,j.bytes,j.e,?_,j.low,?_⟩
 .show p.c=_++(if n=6 then [r.done]else []);rw[py i];exact e
 .intro f b c;rcases a with a|a
  .show _=_+(if n=4\/n=0 then 1 else 0);rw[a];exact j.a f b c
  .have b:r.e.getLast?=J f:=b;unfold dj at a;rw[b]at a;exact absurd c (by rw[show f.object=Hf from a];decide)
end
def cH.V7{x:Ps}(S:cH x 0){l:UInt8}(o:x.D6 l=U):∃b a s,x.c=a++s/\
 ((x.e = b ++ [ew s.length] /\ x.C6 po = bx { x with e := b, c := a ++ [.list s] }) \/
   (∃k,x.e=b++ [cr k]/\k.length=s.length/\x.C6 po=bx {x with e:=b,c:=a++ [gh (dC k) (besides k s)]})):=by
 have F:=S.h;have w:=S.c;have R:=S.g;have P:=S.bytes;have m:=S.f;have v:=S.d;have C:=S.b;have B:=S.a;obtain⟨D,d,e,items,pile,want,c,bytes⟩:=x;simp only at F w R P m v C B;cases C with
 | new=>simp[ee]at o
 | done t n=>simp[ee]at o
 | @list b a s _ H n j=>
  have i:(fd po ⟨D,d,e,a++s,b++ [ew s.length],want,c,bytes⟩)=bx ⟨D,d,e,eI (a++s) s.length,b,want,c,bytes⟩:=by
   unfold fd;simp
  obtain⟨u,q,z⟩:=iM 0 s;rw[j6]at m;rw[j8,dZ,kT]at v;simp only[cn,cv,ib]at m w;have r:=z (D-b.length-1) (λt p=>by have:=n t p;omega);rw[<-gU]at u q r
  have g:eI (a++s) s.length=a++ [.list s]:=by
   unfold eI fZ;rw[py (by simp),cn,mg,mv,mu,if_pos];unfold gz;simp only[mn,decide_eq_true_eq];omega
  exact⟨b,a,s,rfl,bm ⟨rfl,by rw[i,g]⟩⟩
 | @object b a k s _ H n j=>
  have f:k.length=s.length:=by
   rcases j with j|j
   .exact j.2
   .unfold ee at o;simp at o;omega
  have i:(fd po ⟨D,d,e,a++s,b++ [cr k],want,c,bytes⟩)=bx ⟨D,d,e,po (a++s) k,b,want,c,bytes⟩:=by
   unfold fd;simp
  obtain⟨y,N⟩:=B k (by simp);obtain⟨u,q,z⟩:=iM (bD k) s;rw[j6]at m;rw[j8,dZ,kT]at v;simp only[cn,cv,ib]at m w;have r:=z (D-b.length-1) (λt p=>by have:=n t p;omega);rw[<-mV y f.symm]at u q r
  have g:po (a++s) k=a++ [gh (dC k) (besides k s)]:=by
   unfold po fZ;rw[py (by simp;omega),cn,f,mg,mv,mu,if_pos];unfold gz;simp only[mn,decide_eq_true_eq];have:frB (cr k)=bD k:=rfl;omega
  exact⟨b,a,s,rfl,bj ⟨k,rfl,f,by rw[i,g]⟩⟩
section
variable {p:Ps} {r:Rr} {d:Nat}
def Al.I9(C:Al p r d)(R:cH p 0){q:UInt8}(D:p.D6 q=U):Al (p.C6 po) r.L8 d:=by
 obtain⟨S,T,s,u,v⟩:=R.V7 D;have n:=C.e;have w:=C.c;rcases lp r.e with i|⟨a,f,i⟩
 .rw[i]at n;rcases v with⟨o,_⟩|⟨k,o,_⟩<;>(rw[o]at n;simp at n)
 .rw[ls]at i
  have W:r.b=5\/r.b=1\/r.b=2:=by
   have:=C.b;unfold ee at D;simp at D;omega
  have P:r.e.getLast?=J f:=by rw[i];exact cE _ _
  have V:r.L8=ct {r with e:=a} (madeOf f):=by unfold Rr.L8;rw[P];simp only;rw[i,ge]
  have j:=C.a f P;rw[py]at j;rw[py,jz,i,ig]at w;have w:p.c=a.flatMap (λf=>f.c)++f.c:=by rw[w];simp
  rw[i,kr,oq]at n;have x:=C.low;rw[i]at x;have l:=iG.1 x;rw[V]
  have y:∀t:Tr,Al (bx {p with e:=a.map jM,c:=a.flatMap (λf=>f.c)++ [t]}) (ct {r with e:=a} t) d:=by
   intro t
   have c:Al {p with e:=a.map jM,c:=a.flatMap (λf=>f.c),b:=0} {r with e:=a,b:=0} d:=
    ⟨C.h,rfl,C.g,C.bytes,rfl,by simp,λg b=>l g ((List.dropLast_sublist _).subset b),λg b z=>by rw[pz (bj rfl)];exact l g (List.mem_of_getLast? b) z⟩
   have:=c.C5 (bm rfl) (λ_ _ _=>rfl) t;have B:bx {p with e:=a.map jM,c:=a.flatMap (λf=>f.c)++ [t],b:=0}=bx {p with e:=a.map jM,c:=a.flatMap (λf=>f.c)++ [t]}:=rfl
   have m:ct {r with e:=a,b:=0} t=ct {r with e:=a} t:=by
    unfold ct;cases a.getLast?<;>rfl
   rw[m]at this;exact this
  rcases v with⟨o,F⟩|⟨k,o,X,F⟩
  .have e:=o.symm.trans n;obtain⟨B,m⟩:=fe e rfl
   have b:f.object=Hf:=by
    cases z:f.object with
    | false=>rfl
    | true=>simp[jM,z]at m
   have c:s.length=f.c.length:=(by simpa[jM,b]using m);obtain⟨H,N⟩:=fe (u.symm.trans w) c;rw[F,B,H,N];have:madeOf f=.list f.c:=(by unfold madeOf;rw[b];rfl);rw[this];exact y _
  .have e:=o.symm.trans n;obtain⟨B,m⟩:=fe e rfl
   have b:f.object=U:=by
    cases z:f.object with
    | true=>rfl
    | false=>simp[jM,z]at m
   have z:k=f.a:=(by simpa[jM,b]using m);have c:s.length=f.c.length:=(by have:=j b;rw[<-z]at this;omega);obtain⟨H,N⟩:=fe (u.symm.trans w) c;rw[F,B,H,N,z];have:madeOf f=gh (dC f.a) (besides f.a f.c):=(by unfold madeOf;rw[b];rfl);rw[this];exact y _
def Al.D6(x:Al p r d)(u:fB p.h p.b p.e p.c)(c:UInt8):p.D6 c=U<->(c=93/\r.F9=U/\(r.b=5\/r.b=1)\/c=125/\r.E4=U/\(r.b=5\/r.b=2)):=by
 have m:=x.e;have l:=x.b;unfold ee Rr.F9 dj;rw[m,fc,l];have e:=u;rcases lp r.e with i|⟨o,f,i⟩
 .rw[i];simp
 .rw[ls]at i;rw[i,cE];simp only[ng];have b:p.e.getLast?=J (jM f):=by rw[m,i];simp
  have a:(f.object=U->r.b≠1)/\(f.object=Hf->r.b≠2):=by
   revert b;rw[<-l];clear l m u;generalize p.e=q at e;generalize p.c=n at e;generalize p.b=want at e;cases e with
   | new=>intro b;simp at b
   | done t v=>intro b;simp at b
   | list s _ _ _ j=>
    intro b;rw[cE]at b;refine⟨λg=>?_,λ_=>by omega⟩;simp[jM,g]at b
   | object k s _ _ _ w=>
    intro b;rw[cE]at b;refine⟨λ_=>by omega,λg=>?_⟩;simp[jM,g]at b
  cases g:f.object with
  | true=>
   have:=a.1 g;simp[jM,g,wQ];constructor
   .rintro⟨rfl,j⟩;exact⟨rfl,by omega⟩
   .rintro⟨rfl,j⟩;exact⟨rfl,by omega⟩
  | false=>
   have:=a.2 g;simp[jM,g,wQ];constructor
   .rintro⟨rfl,j⟩;exact⟨rfl,by omega⟩
   .rintro⟨rfl,j⟩;exact⟨rfl,by omega⟩
end
end
def aFi(n:Nat):(dG n).length<=2:=by unfold dG;split<;>simp
def qX:∀l:List Nat,(l.flatMap dG).length<=2*l.length
 | []=>by simp
 | n::l=>by
  have:=qX l;have:=aFi n;rw[List.flatMap_cons,cn,cv];omega
def yO(w:G)(s:ByteArray)(hs:s.size<=1073741824)(f:aV s.data.toList=U):ar af 227 #[s] w λe w'=>
 ∃a k c,e=au (I a k c)/\Row w.heap.size 377 aL5 w' (I a k c) (gI s.data.toList)/\(gI s.data.toList).length<=2*s.size/\L w w w':=by
 have R:=A (λW=>aFh W s hs f);obtain⟨q,l,d⟩:=vI s.data.toList.length s.data.toList (hU _) f;rw[q];have d:(eJ s.data.toList).length<=s.size:=by simpa using d
 obtain⟨N,r⟩:∃N,eJ s.data.toList=N:=⟨_,rfl⟩;rw[r]at R l d⊢;have o:=qX N;obtain⟨T,p⟩:∃T,N.flatMap dG=T:=⟨_,rfl⟩;rw[p]at o⊢;have HT:=A p;have HL:=A (And.intro l (And.intro d o));clear q l d o r f p;go_enter func227,ntmps227;go_wp2_with fail;refine(R.o _).mono ?_;rintro e w1 ⟨a,k,c,a2,k2,c2,rfl,d,f⟩;have S:=f.size;have h6:=A d;have HB:=A f;obtain⟨_,_,V⟩:=d.A8;cases V;clear d f;go_wp2;go_loopw [3,6] (λu v wr=>∃(i:Nat)(a0:List Nat),v=O K i/\i<=N.length/\M (a0=(N.take i).flatMap dG)/\Row w1.heap.size 377 aL5 wr u a0/\L w1 w1 wr) (λ_ v _=>N.length-(bk v).toNat)
 case atStart=>exact⟨0,[],rfl,dr _,A rfl,fv _ _ _ _,dk _ _⟩
 case round=>
  obtain⟨i,a0,rfl,hi,Y,q,l⟩:=hrel
  have f:a0.length<=2*i:=by
   have:=qX (N.take i);rw[<-Y.o,el]at this;omega
  have d:=HL.o.2.1;have H:=l.size;by_cases a1:i<N.length
  .have q1:(i:Int)<(N.length:Int):=(by omega);obtain⟨g,rfl,_,o⟩:=(h6.o.A7 l).at a1;obtain⟨n,r⟩:∃n,N[i]=n:=⟨_,rfl⟩;rw[r]at o;replace o:wr.cell? ⟨g,i,Z⟩=J (O dp n):=o;have P:fM n:=HL.o.1 n (by rw[<-r];exact List.getElem_mem a1);unfold fM at P;have e0:K.wrap (n:Int)=(n:Int):=(by rw[b9];omega);have p:=A (show a0++dG n=(N.take (i+1)).flatMap dG by rw[Y.o,List.take_succ_eq_append_getElem a1,ig,r];simp);have C:=A q;have HI:=A a1;have h7:K.wrap ((i:Int)+1)=(i:Int)+1:=(by rw[b9];omega);have X:=A l;have D:=A (And.intro f d);clear r q l f d;by_cases F:n<65536
   .have e1:(n:Int)<65536:=(by omega);have e2:aw.wrap (n:Int)=(n:Int):=(by rw[gj];omega);have r:dG n= [n]:=(by unfold dG;rw[pz F]);rw[r]at p;clear r F P;go_wp2_with (at_builtin;refine cV aLV rfl _ _ rfl rfl (C.o.A5 _) ⟨wr.heap.size,0,Z⟩ 1 n rfl ?_ rfl ?_ ?_ ?_ ?_)
    .rfl
    .have:=D.o;omega
    .have:=D.o;unfold co;omega
    ·(try simp);omega
    intro b cap w3 f d;have t:=(X.o.alloc H (bg #[O aw n] 377)).grown d (by simp;omega) (λk V=>(C.o.lt k V).1);have B:=A (And.intro f t);clear f d t;go_wp2_with fail;exact⟨⟨i+1,a0++ [n],by go_num,by have:=HI.o;omega,p,by simpa using B.o.1,B.o.2⟩,by have:=HI.o;simp[bk];omega⟩
   .have e1:¬(n:Int)<65536:=(by omega);have r:dG n= [55296+(n-65536)/1024,56320+(n-65536)%1024]:=(by unfold dG;rw[py F]);rw[r]at p;obtain⟨m,hm⟩:∃m,n-65536=m:=⟨_,rfl⟩;rw[hm]at p;have e2:K.wrap ((n:Int)-65536)=(m:Int):=(by rw[b9];omega);obtain⟨x,hx⟩:∃x,55296+m/1024=x:=⟨_,rfl⟩;obtain⟨y,hy⟩:∃y,56320+m%1024=y:=⟨_,rfl⟩;rw[hx,hy]at p;have e3:K.wrap (55296+(m:Int)/1024)=(x:Int):=(by rw[b9];omega);have e4:K.wrap (56320+(m:Int)%1024)=(y:Int):=(by rw[b9];omega);have e5:aw.wrap (x:Int)=(x:Int):=(by rw[gj];omega);have e6:aw.wrap (y:Int)=(y:Int):=(by rw[gj];omega);have e7:K.wrap ((m:Int)/1024)=(m:Int)/1024:=(by rw[b9];omega);clear r F P hm hx hy;go_wp2_with (at_builtin;refine jH (enc:=aL5) aLV rfl _ _ rfl rfl (Row.A5 C.o (bg #[O aw x,O aw y] 377)) ⟨wr.heap.size,0,Z⟩ 2 2 [x,y] (by rfl) (by rfl) (by decide) ?_ ?_ ?_ ?_ ?_ ?_)
    .intro j z r;rcases j with _|_|j<;>simp at r<;>subst r<;>rfl
    .intro z;rfl
    .have:=D.o;omega
    .have:=D.o;unfold co;omega
    ·(try simp);omega
    intro b cap w3 f d;have t:=(X.o.alloc H (bg #[O aw x,O aw y] 377)).grown d (by simp;omega) (λk V=>(C.o.lt k V).1);have B:=A (And.intro f t);clear f d t;go_wp2_with fail;exact⟨⟨i+1,a0++ [x,y],by go_num,by have:=HI.o;omega,p,by simpa using B.o.1,B.o.2⟩,by have:=HI.o;simp[bk];omega⟩
  .obtain rfl:i=N.length:=(by omega);have q1:¬(N.length:Int)<(N.length:Int):=(by omega);have o:=Y.o;rw[List.take_length,HT.o]at o;subst o;obtain⟨a3,r,rfl⟩:=q.A8;have p:=A (And.intro (q.I3 S) (HB.o.trans (l.mono S)));clear q l Y;go_wp2;go_ret;exact⟨_,_,_,rfl,p.o.1,bo HL.o.2.2 (by omega),p.o.2⟩
def aLm{c V:List Nat}{j:Nat}(b:j<c.length)(a:j<V.length):cmpL (c.drop j) (V.drop j)=if c[j]=V[j]then cmpL (c.drop (j+1)) (V.drop (j+1))else if c[j]<V[j]then -1 else 1:=by
 rw[nf b,nf a];rfl
def aJ1{e V:List Nat}{j:Nat}(d:j<=e.length)(c:j<=V.length)(f:¬(j<e.length/\j<V.length)):cmpL (e.drop j) (V.drop j)=if e.length<V.length then -1 else if V.length<e.length then 1 else 0:=by
 by_cases b:j<e.length
 .have a:V.length=j:=by omega
  rw[nf b,(show V.drop j= []from lk (by omega)),py,pz];rfl
 .rw[(show e.drop j= []from lk (by omega))];by_cases a:j<V.length
  .rw[nf a,pz];rfl
  .rw[lk (by omega),py,py];rfl
def aBQ(w:G)(s t:ByteArray)(i:s.size<=1073741824)(l:t.size<=1073741824)(b:aV s.data.toList=U)(d:aV t.data.toList=U):ar af 207 #[s,t] w λe w'=>
 e=au (O K (eE s.data.toList t.data.toList))/\L w w w':=by
 rw[<-aA0 _ _ _ (hU _) b d];have B:=A (λW=>yN W s i b);have D:=A (λW=>yN W t l d);have p:=A (λW=>yO W s i b);have r:=A (λW=>yO W t l d);obtain⟨f,n⟩:∃f,gI s.data.toList=f:=⟨_,rfl⟩;obtain⟨V,o⟩:∃V,gI t.data.toList=V:=⟨_,rfl⟩;rw[n]at p⊢;rw[o]at r⊢;obtain⟨C,m⟩:∃C,cmpL f V=C:=⟨_,rfl⟩;have HC:=A (show cmpL (f.drop 0) (V.drop 0)=C from m);rw[m];have X:=A (And.intro i l);clear m n o b d i l;go_enter func207,ntmps207;go_wp2_with fail;refine(B.o _).mono ?_;rintro e w1 ⟨rfl,rfl⟩;go_wp2_with fail;refine(D.o _).mono ?_;rintro e w2 ⟨rfl,rfl⟩;go_wp2_with fail;refine(p.o _).mono ?_;rintro e w3 ⟨a,k,c,rfl,l,d,i⟩;obtain⟨_,_,b⟩:=l.A8;cases b;have m:=A (And.intro l d);have F:=A i;clear l d i;go_wp2_with fail;refine(r.o _).mono ?_;rintro e z ⟨a2,k2,c2,rfl,l,n,i⟩;obtain⟨_,_,b⟩:=l.A8;cases b;have H:=A (m.o.1.A7 i);have N:=A (chain F.o i);have HV:=A l;have d:=A (λq=>show L w2 w2 (z.drewN q)from N.o.trans ⟨rfl,rfl,rfl,hU _,λ_ _=>rfl⟩);have HL:=A (show f.length<=4294967296/\V.length<=4294967296 from⟨by have:=m.o.2;have:=X.o;omega,by have:=X.o;omega⟩);clear l n i m;go_wp2;go_loopw [9] (λv wr=>∃j:Nat,v=O K j/\j<=f.length/\j<=V.length/\M (cmpL (f.drop j) (V.drop j)=C)/\∃q,wr=z.drewN q) (λv _=>f.length-(bk v).toNat)
 case atStart=>exact⟨0,rfl,dr _,dr _,HC,0,rfl⟩
 case round=>
  obtain⟨j,rfl,l,m,P,q,rfl⟩:=hrel;have Y:=HL.o;by_cases i:j<f.length/\j<V.length
  .have e1:(j:Int)<(f.length:Int):=(by omega);have e2:(j:Int)<(V.length:Int):=(by omega);obtain⟨g,rfl,_,n⟩:=H.o.at i.1;obtain⟨g2,rfl,_,o⟩:=HV.o.at i.2;have b:=P.o;rw[aLm i.1 i.2]at b;obtain⟨x,u⟩:∃x,f[j]=x:=⟨_,rfl⟩;obtain⟨y,S⟩:∃y,V[j]=y:=⟨_,rfl⟩;rw[u]at n b;rw[S]at o b;replace n:z.cell? ⟨g,j,Z⟩=J (O aw x):=n;replace o:z.cell? ⟨g2,j,Z⟩=J (O aw y):=o;have R:=A i;have g7:K.wrap ((j:Int)+1)=(j:Int)+1:=(by rw[b9];omega);clear u S i Y l m;rcases Nat.lt_trichotomy x y with T|T|T
   .have u:(x:Int)<(y:Int):=(by omega);rw[py,pz T]at b;subst b;clear T;go_wp2;go_quiet (fail);go_wp2;go_ret;exact⟨rfl,by first|exact d.o _|(rw[fj];exact d.o _)|(rw[World.drewN_drewN,World.drewN_drewN];exact d.o _)⟩
   .subst T;have u:¬(x:Int)<(x:Int):=(by omega);rw[pz rfl]at b;have S:=A b;clear b;go_wp2;go_quiet (fail);go_wp2;go_quiet (fail);go_wp2;go_roundw
    case rel=>exact⟨j+1,by go_num,by have:=R.o;omega,by have:=R.o;omega,S,_,rfl⟩
    case measure=>have:=R.o;simp[bk];omega
   .have u:¬(x:Int)<(y:Int):=(by omega);have S:(y:Int)<(x:Int):=(by omega);rw[py,py]at b;subst b;clear T;go_wp2;go_quiet (fail);go_wp2;go_quiet (fail);go_wp2;go_ret;exact⟨rfl,by first|exact d.o _|(rw[fj];exact d.o _)|(rw[fj,fj];exact d.o _)⟩
  .have b:=P.o;rw[aJ1 l m i]at b;have n:((j:Int)<(f.length:Int)/\¬(j:Int)<(V.length:Int))\/¬(j:Int)<(f.length:Int):=by omega
   have o:((f.length:Int)<(V.length:Int)/\C= -1)\/(¬(f.length:Int)<(V.length:Int)/\(V.length:Int)<(f.length:Int)/\C=1)\/(¬(f.length:Int)<(V.length:Int)/\¬(V.length:Int)<(f.length:Int)/\C=0):=by
    split at b
    .exact bm ⟨by omega,b.symm⟩
    .split at b
     .exact bj (bm ⟨by omega,by omega,b.symm⟩)
     .exact bj (bj ⟨by omega,by omega,b.symm⟩)
   clear b i P Y l m;rcases n with⟨e1,e2⟩|e1<;>rcases o with⟨u,rfl⟩|⟨u,S,rfl⟩|⟨u,S,rfl⟩
   all_goals
    go_wp2;go_ret;exact⟨rfl,by first|exact d.o _|(rw[World.drewN_drewN];exact d.o _)|(rw[World.drewN_drewN,World.drewN_drewN];exact d.o _)⟩
section
open Go.Sort
abbrev Mem:=List UInt8×Tr
def mD(x y:Mem):Bool:=decide (eE x.1 y.1<=0)
def iE(l:List Mem):List Mem:=
 if l.length<2 then l else bz (iE (l.take (l.length/2))) (iE (l.drop (l.length/2))) mD
termination_by l.length
decreasing_by all_goals(simp_wf;omega)
def gJ{l:List Mem}(a:l.length<2):iE l=l:=by rw[iE,pz a]
def oQ{l:List Mem}(a:¬l.length<2):iE l=bz (iE (l.take (l.length/2))) (iE (l.drop (l.length/2))) mD:=by rw[iE,py a]
def aDr(N:Nat):∀l:List Mem,l.length<=N->(iE l).Perm l:=by
 induction N with
 | zero=>intro l e;rw[gJ (by omega)]
 | succ N a=>
  intro l e;by_cases b:l.length<2
  .rw[gJ b]
  .rw[oQ b];have d:=a (l.take (l.length/2)) (by rw[el];omega);have c:=a (l.drop (l.length/2)) (by rw[ea];omega);refine(ii ..).trans ((d.append c).trans ?_);rw[lm]
def aDs(a b c:Mem)(g:mD a b=U)(f:mD b c=U):mD a c=U:=by
 unfold mD at*;have g:=of_decide_eq_true g;have f:=of_decide_eq_true f;refine decide_eq_true ?_;have d:=kY a.1 b.1;have e:=kY b.1 c.1;rcases d with d|d|d
 .rcases e with e|e|e
  .have:=mQ (x:=a.1) (y:=b.1) (z:=c.1) (by omega) (by omega);omega
  .rw[<-rN e,d];decide
  .omega
 .rw[rN d];exact f
 .omega
def aDt(a b:Mem):(mD a b||mD b a)=U:=by
 unfold mD;have:=kR a.1 b.1;simp only[Bool.or_eq_true,decide_eq_true_eq];omega
def aAj(N:Nat):∀l:List Mem,l.length<=N->(iE l).Pairwise (λa b=>mD a b=U):=by
 induction N with
 | zero=>intro l e;rw[gJ (by omega),eb (Nat.le_zero.1 e)];exact .nil
 | succ N d=>
  intro l e;by_cases c:l.length<2
  .rw[gJ c]
   match l,c with
   | [],_=>exact .nil
   | [a],_=>simp
   | _::_::_,c=>simp at c;omega
  .rw[oQ c];exact List.pairwise_merge aDs aDt _ _ (d _ (by rw[el];omega)) (d _ (by rw[ea];omega))
def aFj{a b:List Oo}(c:a.Perm b)(d:a.Pairwise (λx y=>eE x y<=0))(e:b.Pairwise (λx y=>eE x y<=0)):a=b:=by
 refine c.eq_of_pairwise (le:=λx y=>eE x y<=0) ?_ d e;intro x y _ _ g f;have:=kR x y;exact rN (by omega)
def aBR{keys:List Oo}(l:bK keys):(dC keys).Pairwise (λx y=>eE x y<=0):=by
 rw[oD l];obtain⟨d,f⟩:∃d,(qA keys l).toArray=d:=⟨_,rfl⟩;rw[f];have c:=(Sort.pdq_sorts (ltOf vV) rW d 0 d.size (Lib.bitLen d.size) U U (dr _) (hU _) (bm rfl)).2;have c:SortedIn (ltOf vV) 0 d.size (gM d):=c;rw[ik];rw[List.pairwise_iff_getElem];intro i j hi a b;have e:=qM d;have:=c i j (dr _) b (by rw[<-e];simpa using a);rw[getElem!_pos (gM d) i (by simpa using hi),getElem!_pos (gM d) j (by simpa using a)]at this;unfold ltOf vV at this;have k:=of_decide_eq_false this;have g:=kR ((gM d)[i]'(by simpa using hi)).1 ((gM d)[j]'(by simpa using a)).1;simp only[ga];omega
def aLn{keys:List Oo}{a:List Tr}(o:bK keys)(d:keys.Nodup)(n:a.length=keys.length):(iE (keys.zip a)).map (·.1)=dC keys/\(iE (keys.zip a)).map (·.2)=besides keys a:=by
 have f:=aDr (keys.zip a).length (keys.zip a) (hU _);have l:=aAj (keys.zip a).length (keys.zip a) (hU _)
 have g:(iE (keys.zip a)).map (·.1)=dC keys:=by
  refine aFj ?_ ?_ (aBR o)
  .refine(f.map (·.1)).trans ?_;have:(keys.zip a).map (·.1)=keys:=List.map_fst_zip (by omega);rw[this];exact(fL keys).symm
  .rw[ik];exact l.imp λc=>of_decide_eq_true c
 refine⟨g,?_⟩;unfold besides;rw[<-g,List.map_map];refine List.map_congr_left λm j=>?_;have e:m∈keys.zip a:=f.mem_iff.1 j;obtain⟨i,hi,b⟩:=List.mem_iff_getElem.1 e;rw[List.getElem_zip]at b;have k:keys[i]?=J m.1:=by rw[bf (by simp at hi;omega),<-b]
 show m.2=a.getD (keys.idxOf m.1) .null;rw[aEQ d k,List.getD_eq_getElem?_getD,bf (by simp at hi;omega),<-b];rfl
end
abbrev eA:=Mem×List Q
def lL(x:eA):List Q:=encS x.1.1::x.2
def yP(x y:eA):Bool:=mD x.1 y.1
def dR(l:List eA):List eA:=
 if l.length<2 then l else bz (dR (l.take (l.length/2))) (dR (l.drop (l.length/2))) yP
termination_by l.length
decreasing_by all_goals(simp_wf;omega)
def iY{l:List eA}(a:l.length<2):dR l=l:=by rw[dR,pz a]
def oR{l:List eA}(a:¬l.length<2):dR l=bz (dR (l.take (l.length/2))) (dR (l.drop (l.length/2))) yP:=by rw[dR,py a]
def aFk(N:Nat):∀l:List eA,l.length<=N->(dR l).map (·.1)=iE (l.map (·.1)):=by
 induction N with
 | zero=>intro l c;rw[iY (by omega),gJ (by simp;omega)]
 | succ N b=>
  intro l c;by_cases a:l.length<2
  .rw[iY a,gJ (by simpa using a)]
  .rw[oR a,oQ (by simpa using a),show((dR (l.take (l.length/2))).merge (dR (l.drop (l.length/2))) yP).map (·.1)=_ from List.map_merge (f:=λx:eA=>x.1) (r:=yP) (s:=mD) (λ_ _ _ _=>rfl),b _ (by rw[el];omega),b _ (by rw[ea];omega)];simp[il,im]
def oS(N:Nat):∀l:List eA,l.length<=N->(dR l).Perm l:=by
 induction N with
 | zero=>intro l c;rw[iY (by omega)]
 | succ N a=>
  intro l c;by_cases b:l.length<2
  .rw[iY b]
  .rw[oR b];refine(ii ..).trans (((a _ (by rw[el];omega)).append (a _ (by rw[ea];omega))).trans ?_);rw[lm]
def sZ:lB 334 336 7 104:=⟨underlying334,by decide,by
 have e:(af.info? 336).map (λi=>(i.zero,i.size,i.bytes))=J (J (.agg #["",O K 0,ai Hf,O ac 0,"",(),()]),7,104):=by kernel_rfl
 obtain⟨i,c,a,d,b⟩:=fq e;exact⟨i,_,c,a,d,b,rfl⟩⟩
def aH9(neg:Bool){a:Oo}(e:Int)(q:∀c∈a,isD c=U):gC (cB neg a e)/\(cB neg a e).c.length<=a.length/\((cB neg a e).b=0\/(e<=(cB neg a e).b/\(cB neg a e).b<=e+a.length)):=by
 have o:bu a 48<+:bu a 48:=List.prefix_refl _;have f:(bu a 48).Sublist a:=List.dropWhile_sublist _
 have d:gl (bu a 48) 48<+:bu a 48:=by
  have:=List.dropWhile_suffix (l:=(bu a 48).reverse) (λx:UInt8=>x==48);unfold gl;rw[<-List.reverse_suffix,List.reverse_reverse];exact this
 have m:∀c t,bu a 48=c::t->c≠48:=by
  intro c t g;have:=List.head?_dropWhile_not (λx:UInt8=>x==48) a;unfold bu at g;rw[g]at this;simpa using this
 have n:=f.length_le;have k:=d.length_le;unfold cB;generalize gl (bu a 48) 48=p at*;generalize bu a 48=T at*;by_cases i:p= []
 .rw[pz i];exact⟨⟨λc b=>by simp at b,λc t b=>by simp at b⟩,dr _,bm rfl⟩
 .rw[py i];refine⟨⟨λc b=>q c (f.subset (d.subset b)),λc t b=>?_⟩,by simp only;omega,bj ⟨by simp only;omega,by simp only;omega⟩⟩;simp only at b;obtain⟨r,j⟩:=d;rw[b]at j;exact m c _ j.symm
def aJv.all{l W:Oo}{P:Option Oo}{g:Option mX}(f:aJv l W P g):(∀c∈W++P.getD [],isD c=U)/\(W++P.getD []).length<=l.length/\(P.getD []).length<=l.length:=by
 have d:=congrArg io f.is;rw[cn,cn]at d;refine⟨λc e=>?_,?_,?_⟩
 .rcases mj.1 e with b|b
  .exact f.f c b
  .cases a:P with
   | none=>rw[a]at b;simp at b
   | some F=>rw[a]at b;exact(f.c F a).2 c b
 .cases a:P with
  | none=>simp;omega
  | some F=>rw[a]at d;simp[pL]at d⊢;omega
 .cases a:P with
  | none=>simp
  | some F=>rw[a]at d;simp[pL]at d⊢;omega
def aDz(s:ByteArray)(w:G)(neg:Bool)(W:Oo)(P:Option Oo)(V:Option mX)(X:aAN s.data.toList neg W P V)(N:s.size<=2147483648):
 ar af 91 #[s] w λr w'=>r=au (uM (bitsOf s.data.toList))/\L w w w':=by
 rw[aJy X];have c:=A (λl:G=>aH8 s l neg W P V X N);obtain⟨u,q,g⟩:=X;obtain⟨n,B,S⟩:=g.all
 have D:u.length<=s.size:=by
  have:=congrArg io q;rw[show s.data.toList.length=s.size by simp]at this;cases neg<;>simp at this<;>omega
 have R: -351843720888329<=pW V/\pW V<=351843720888329:=by
  cases H:V with
  | none=>exact⟨by decide,by decide⟩
  | some x=>
   have:=aKh x.X (g.a x H).2.2.2;unfold pW;simp only;split<;>omega
 obtain⟨d,b,e⟩:=aH9 neg (pW V-(P.getD []).length) n;have a:j3 neg W P V=cB neg (W++P.getD []) (pW V-(P.getD []).length):=rfl;rw[<-a]at d b e;obtain⟨⟨y,p,t⟩,o⟩:∃z,j3 neg W P V=z:=⟨_,rfl⟩;rw[o]at c d b e⊢;simp only at b e;obtain⟨C,f⟩:∃C:ByteArray,(⟨p.toArray⟩:ByteArray)=C:=⟨_,rfl⟩;have i:p=C.data.toList:=by rw[<-f]
 unfold fV at c;simp only[f]at c;subst i;rw[show C.data.toList.length=C.size by simp]at b;have F:=A (λl:G=>aFu y C t l d (by omega) (by omega) (by omega));clear o q g n B d f a;generalize cF ⟨y,C.data.toList,t⟩=T at*;go_enter func91,ntmps91;go_wp2_with fail;refine(c.o _).mono ?_;rintro r w1 ⟨rfl,k⟩;go_wp2_with fail;refine(F.o _).mono ?_;rintro r w2 ⟨rfl,j⟩;have m:=chain k j;cases T with
 | none=>
  unfold uM;go_wp2_with fail;exact bb (v:=cg #[O ac 0,ai Hf]) (by simp[em,results91,go_sem]) rfl ⟨rfl,m⟩
 | some x=>
  unfold uM;go_wp2_with fail;exact bb (v:=cg #[O ac (x:Nat),ai U]) (by simp[em,results91,go_sem]) rfl ⟨rfl,m⟩
def aBS(x:eA):Prop:=(∃(d:Int)(e:Bool)(c:Nat)(s:ByteArray)(a:Option cz)(n m:Nat)(b:Option cz)(p q:Nat),x.2=eQ d e c s (I a n m) (I b p q))/\aV x.1.1=U/\x.1.1.length<=1073741824
def iZ(l:List eA):Prop:=∀x∈l,aBS x
def bN(w:G)(v:Q)(l:List eA):Prop:=aQ 7 336 w v l.length (l.map lL).flatten
def qY{l:List eA}(k:iZ l):∀c∈l.map lL,c.length=7:=by
 intro c d;obtain⟨x,f,rfl⟩:=List.mem_map.1 d;obtain⟨⟨i,j,g,s,a,n,m,b,p,q,e⟩,_⟩:=k x f;unfold lL;rw[e];rfl
def aA1:∀{a:List (List Q)}(k:Nat),(∀c∈a,c.length=s)->a.flatten.take (k*s)=(a.take k).flatten
 | [],_,_=>by simp
 | c::a,0,_=>by simp
 | c::a,k+1,d=>by
  rw[oz,List.take_succ_cons,oz,ip,<-aA1 k (λx b=>d x (jv _ b)),List.take_append,d c (fi ..)];rw[List.take_of_length_le (by rw[d c (fi ..)];omega),show k*s+s-s=k*s by omega]
def aA2:∀{a:List (List Q)}(k:Nat),(∀c∈a,c.length=s)->a.flatten.drop (k*s)=(a.drop k).flatten
 | [],_,_=>by simp
 | c::a,0,_=>by simp
 | c::a,k+1,d=>by
  rw[oz,kw,ip,<-aA2 k (λx b=>d x (jv _ b)),List.drop_append,d c (fi ..)];rw[List.drop_of_length_le (by rw[d c (fi ..)];omega),show k*s+s-s=k*s by omega];rfl
def bN.B3{l:List eA}(d:bN w (I (g,off) n cap) l)(b:iZ l)(c:n=l.length){k:Nat}(a:k<=n):bN w (I (g,off) k cap) (l.take k):=by
 subst c;have:=aQ.B3 d a;rw[aA1 k (qY b),<-il]at this;unfold bN;rwa[el,Nat.min_eq_left a]
def bN.M7{l:List eA}(d:bN w (I (g,off) n cap) l)(a:iZ l)(c:n=l.length){k:Nat}(b:k<=n):bN w (I (g,off+k*7) (n-k) (cap-k)) (l.drop k):=by
 subst c;have:=aQ.P1 d b;rw[aA2 k (qY a),<-im]at this;unfold bN;rwa[ea]
def bN.A0{F:Nat->Prop}{l:List eA}(c:bN w v l)(a:Keeps F w w')(b:∀k,v.ownBlock=J k->¬F k):bN w' v l:=ei c a b
def bN.A7{l:List eA}(b:bN w v l)(a:L w w w'):bN w' v l:=b.A0 (ej (λ_=>False) a) λ_ _=>id
def qZ(w:G)(V:Q)(l:List eA)(a:Q)(w':G):Prop:=L w w w'/\bN w' a (dR l)/\∀k,a.ownBlock=J k->V.ownBlock=J k\/w.heap.size<=k
def rA(l:List eA):(dR l).length=l.length:=(oS _ l (hU _)).length_eq
def uK{l:List eA}(b:iZ l):iZ (dR l):=λx a=>b x ((oS _ l (hU _)).mem_iff.1 a)
def oT(l:List eA)(w:G)(V:Q)(d:l.length<2)(b:bN w V l):ar af 192 #[V] w λe w'=>∃a c,e=au (I a l.length c)/\qZ w V l (I a l.length c) w':=by
 obtain⟨a,c,rfl⟩:=fm b;have f:=A (show qZ w (I a l.length c) l (I a l.length c) w from⟨dk _ _,by rw[iY d];exact b,λk e=>bm e⟩);have i:(l.length:Int)<2:=by omega
 clear b d;obtain⟨j,g⟩:∃j,l.length=j:=⟨_,rfl⟩;rw[g]at i f⊢;clear g;go_enter func192,ntmps192;go_wp2;go_ret;exact⟨a,c,rfl,f.o⟩
def aHN:Q->Nat
 | .slice _ n _=>n
 | _=>0
def lT(c:G)(d:List eA)(e:Nat)(a b o:Q)(wr:G):Prop:=∃X Y f:List eA,bN c a X/\bN c b Y/\bN wr o f/\iZ X/\iZ Y/\f++bz X Y yP=d/\X.length+Y.length+f.length=e/\L c c wr/\∀k,o.ownBlock=J k->c.heap.size<=k
def bN.U6{x:eA}{X:List eA}{i:Int}{m:Bool}{l:Nat}{s:ByteArray}{a b:Option cz}{t o p q:Nat}(D:bN w (I (g,off) n cap) (x::X))(z:x.2=eQ i m l s (I a t o) (I b p q)):∀W,L w w W->
 W.cell? ⟨g,off,Z⟩=J (encS x.1.1)/\W.cell? ⟨g,off+1,Z⟩=J (O K i)/\W.cell? ⟨g,off+2,Z⟩=J (ai m)/\W.cell? ⟨g,off+3,Z⟩=J (O ac l)/\W.cell? ⟨g,off+4,Z⟩=J (E s)/\W.cell? ⟨g,off+5,Z⟩=J (I a t o)/\W.cell? ⟨g,off+6,Z⟩=J (I b p q):=by
 intro W v;have e:=D.A7 v
 have B:n=(x::X).length:=by
  rcases e.2 with⟨d,_⟩|⟨C,f,k,y,d,_⟩
  .cases d
  .cases d;rfl
 subst B
 have c:∀(j:Nat)(u:Q),(lL x)[j]?=J u->W.cell? ⟨g,off+j,Z⟩=J u:=λj u r=>aQ.B6 e (j:=j) (u:=u) (by
  rw[List.map_cons,oz,List.getElem?_append_left (List.getElem?_eq_some_iff.1 r).1];exact r)
 unfold lL at c;rw[z]at c;exact⟨c 0 _ rfl,c 1 _ rfl,c 2 _ rfl,c 3 _ rfl,c 4 _ rfl,c 5 _ rfl,c 6 _ rfl⟩
def bN.X4{x:eA}{X:List eA}(q:bN w (I (g,off) (X.length+1) cap) (x::X))(n:iZ (x::X)):X.length+1<=cap/\bN w (I (g,off+7) X.length (cap-1)) X/\(cap=1->bN w (I (g,off) X.length (cap-1)) X):=by
 have f:X.length+1<=cap:=by
  rcases q.2 with⟨a,_⟩|⟨m,b,c,d,a,_,f,_⟩
  .cases a
  .cases a;exact f
 have i:=q.M7 n rfl (k:=1) (by omega);rw[Nat.one_mul,show X.length+1-1=X.length by omega]at i;refine⟨f,i,λe=>?_⟩;subst e;obtain rfl:X= []:=eb (by omega);rcases q.2 with⟨a,_⟩|⟨m,b,c,d,a,l,_,p,_,_⟩
 .cases a
 .cases a;exact⟨rfl,bj ⟨g,off,0,d,rfl,l,hU _,by omega,by unfold co;omega,λj u o=>by simp at o⟩⟩
def bN.U7{j:Option cz}{a f:Nat}{X:List eA}(p:bN w (I j a f) X)(i:iZ X)(g:X.length=a){x:eA}{c:List eA}(e:X=x::c):∃b d,j=J ⟨b,d,Z⟩/\a=c.length+1/\a<=f/\aBS x/\bN w (I (J ⟨b,d,Z⟩) a f) X/\bN w (I (J ⟨b,d+7,Z⟩) (a-1) (f-1)) c/\(f=1->bN w (I (J ⟨b,d,Z⟩) (a-1) (f-1)) c):=by
 subst e;have g:a=c.length+1:=g.symm;subst g;obtain⟨b,d,k,e⟩:=aQ.some (n:=c.length) p;cases e;obtain⟨m,l,o⟩:=bN.X4 p i;exact⟨b,d,rfl,rfl,m,i x (fi ..),p,l,o⟩
def mE(w:G)(a b c d e f g:Q):∀(j:Nat)(u:Q),[a,b,c,d,e,f,g][j]?=J u->(w.alloc (bg #[a,b,c,d,e,f,g] 336)).cell? ((⟨w.heap.size,0,Z⟩:cz).add j)=J u:=λj u i=>by
 rw[Addr.add_lit,jw];exact(aA (heap_alloc_new w _)).trans (by simpa using i)
def lT.K8{c wr f:G}{y X Y B:List eA}{x:eA}{z no:Nat}{a b o:Q}(i:B.length=no)(t:bN c a X)(v:bN c b Y)(j:iZ X)(l:iZ Y)(s:(B++ [x])++bz X Y yP=y)(w:X.length+Y.length+(B.length+1)=z)(n:L c c wr)(r:∀k,o.ownBlock=J k->c.heap.size<=k)
 (p:Keeps (λ_=>False) wr f)(d:aQ 7 336 w' (I (g,off) (no+1) cap) (no+1) ((B.map lL).flatten++lL x))(m:o.ownBlock=J g\/f.heap.size<=g)(u:Keeps (λk=>o.ownBlock=J k) f w'):
 lT c y z a b (I (g,off) (no+1) cap) w':=by
 subst i;refine⟨X,Y,B++ [x],t,v,?_,j,l,s,by simp;omega,?_,λk e=>?_⟩
 .unfold bN;rw[cn,List.length_singleton,kr,oq,dV];exact d
 .have q:L c c f:=n.trans ((p.A6 n.size λ_=>False.elim));exact q.trans (u.A6 q.size r)
 .obtain rfl:g=k:=by simpa[fw]using e
  exact m.elim (r g) λe=>bo (bo n.size p.size) e
def aAk(l:List eA)(w:G)(V:Q)(h2:¬l.length<2)(hl:l.length<=65536)(hm:iZ l)(hs:bN w V l)
 (ih:∀(l':List eA)(W:G)(V':Q),l'.length<l.length->iZ l'->bN W V' l'->ar af 192 #[V'] W λe w'=>∃a c,e=au (I a l'.length c)/\qZ W V' l' (I a l'.length c) w'):
 ar af 192 #[V] w λe w'=>∃a c,e=au (I a l.length c)/\qZ w V l (I a l.length c) w':=by
 obtain⟨a2,t⟩:∃a2,l.length=a2:=⟨_,rfl⟩
 obtain⟨g,off,cap,rfl⟩:∃g off cap,V=I (J ⟨g,off,Z⟩) a2 cap:=by
  rcases hs with⟨_,⟨_,hn⟩|⟨g,off,cap,cur,rfl,_⟩⟩
  .omega
  .rw[t];exact⟨g,off,cap,rfl⟩
 have hcap:a2<=cap:=by
  rcases hs with⟨_,⟨hv,_⟩|⟨g',off',cap',cur,hv,_,hc,_⟩⟩
  .cases hv
  .cases hv;omega
 obtain⟨H,hH⟩:∃H,a2/2=H:=⟨_,rfl⟩;have hHL:1<=H/\H<a2:=by omega
 obtain⟨a0,hA⟩:∃a0,l.take H=a0:=⟨_,rfl⟩;obtain⟨B,hB⟩:∃B,l.drop H=B:=⟨_,rfl⟩;have hAl:a0.length=H:=by rw[<-hA,el];omega
 have hBl:B.length=a2-H:=by rw[<-hB,ea];omega
 have hmA:iZ a0:=λx hx=>hm x (List.mem_of_mem_take (by rw[hA];exact hx));have hmB:iZ B:=λx hx=>hm x (List.mem_of_mem_drop (by rw[hB];exact hx));have F:dR l=bz (dR a0) (dR B) yP:=by rw[oR h2,t,hH,hA,hB]
 have HA:=A (λ(W:G)(hW:L w w W)=>show ar af 192 #[I (J ⟨g,off,Z⟩) H cap] W λe w'=>∃a c,e=au (I a H c)/\qZ W (I (J ⟨g,off,Z⟩) H cap) a0 (I a H c) w' from by
  have:=ih a0 W (I (J ⟨g,off,Z⟩) H cap) (by omega) hmA (by rw[<-hA];exact(hs.A7 hW).B3 hm t.symm (by omega))
  rwa[hAl]at this)
 have HB:=A (λ(W:G)(hW:L w w W)=>show ar af 192 #[I (J ⟨g,off+H*7,Z⟩) (a2-H) (cap-H)] W λe w'=>∃a c,e=au (I a (a2-H) c)/\qZ W (I (J ⟨g,off+H*7,Z⟩) (a2-H) (cap-H)) B (I a (a2-H) c) w' from by
  have:=ih B W (I (J ⟨g,off+H*7,Z⟩) (a2-H) (cap-H)) (by omega) hmB (by rw[<-hB];exact(hs.A7 hW).M7 hm t.symm (by omega))
  rwa[hBl]at this)
 have i1:¬(a2:Int)<2:=by omega
 have i2:Int.tdiv (a2:Int) 2=(H:Int):=by rw[<-hH];rfl
 have i3:K.wrap (H:Int)=(H:Int):=by rw[b9];omega
 have i4:(0:Int)<=(H:Int):=by omega
 have i5:(H:Int)<=(a2:Int):=by omega
 have i7:(H:Int)<=(cap:Int):=by omega
 have i9:¬cap=H:=by omega
 have HX:=A (And.intro hs (And.intro F (And.intro t (And.intro (uK hmA) (And.intro (uK hmB) (And.intro hAl hBl))))));rw[t];have HH:=A (And.intro hHL hH);clear hs F t hmA hmB hAl hBl hA hB hHL hH ih h2 hm;go_enter func192,ntmps192;go_wp2_with fail;have HD:=A (m8 (dk w w))
 go_region_held3 (λ_=>True) (trivial) (first
  | (go_at_call 192;(with_reducible refine(HA.o _ HD.o).mono ?_);rintro e wa ⟨aa,ca,rfl,hsa⟩;have hba:L w w wa:=sT hsa.1)
  | (go_at_call 192;(with_reducible refine(HB.o _ hba).mono ?_);rintro e wb ⟨ab,cb,rfl,hsb⟩))
 have HI0:=A (show lT wb (bz (dR a0) (dR B) yP) a2 (I aa H ca) (I ab (a2-H) cb) (I Z 0 0) wb from by
  obtain⟨-,-,-,hmA,hmB,hAl,hBl⟩:=HX.o;refine⟨dR a0,dR B,[],hsa.2.1.A7 hsb.1,hsb.2.1,.nil _ _ _,hmA,hmB,(by simp),(by simp[rA];have:=HH.o;omega),dk _ _,λk e=>(by cases e)⟩)
 have HBW:=A (show L w w wb from chain hba hsb.1);clear hsa hsb hba HA HB HD i1 i2 i3 i4 i5 i7 i9 hcap;go_wp2;go_loopw [3,4,5] (λa b o wr=>M (lT wb (bz (dR a0) (dR B) yP) a2 a b o wr)) (λa b _ _=>aHN a+aHN b)
 case atStart=>exact HI0
 case round=>
  obtain⟨X,Y,a3,hX,hY,hO,r,p,hM,t,hB,hF⟩:=hrel.o;obtain⟨xa,xc,rfl⟩:=fm hX;obtain⟨ya,yc,rfl⟩:=fm hY;obtain⟨oa,oc,rfl⟩:=fm hO;obtain⟨nx,hnx⟩:∃nx,X.length=nx:=⟨_,rfl⟩;obtain⟨ny,hny⟩:∃ny,Y.length=ny:=⟨_,rfl⟩;obtain⟨no,j⟩:∃no,a3.length=no:=⟨_,rfl⟩;rw[hnx]at hX⊢;rw[hny]at hY⊢;rw[j]at hO⊢
  have hO:aQ 7 336 wr (I oa no oc) no (a3.map lL).flatten:=by
   unfold bN at hO;rwa[j]at hO
  have hF:∀k,(I oa no oc).ownBlock=J k->wb.heap.size<=k:=by rw[<-j];exact hF
  have HO:=A (And.intro hO (And.intro hM (And.intro t (And.intro hB (And.intro hF (And.intro j (And.intro r p)))))));have HN:=A (And.intro hnx hny);have HBM:=A (show(no+1)*104<=140737488355328/\no+1<=co from⟨by have:=HX.o.2.2.1;omega,by unfold co;have:=HX.o.2.2.1;omega⟩);have HPX:=A (show ∀x X',X=x::X'->∃xg xo,xa=J ⟨xg,xo,Z⟩/\nx=X'.length+1/\nx<=xc/\aBS x/\bN wb (I (J ⟨xg,xo,Z⟩) nx xc) X/\bN wb (I (J ⟨xg,xo+7,Z⟩) (nx-1) (xc-1)) X'/\(xc=1->bN wb (I (J ⟨xg,xo,Z⟩) (nx-1) (xc-1)) X')from λx X' e=>bN.U7 hX r hnx e);have HPY:=A (show ∀x X',Y=x::X'->∃xg xo,ya=J ⟨xg,xo,Z⟩/\ny=X'.length+1/\ny<=yc/\aBS x/\bN wb (I (J ⟨xg,xo,Z⟩) ny yc) Y/\bN wb (I (J ⟨xg,xo+7,Z⟩) (ny-1) (yc-1)) X'/\(yc=1->bN wb (I (J ⟨xg,xo,Z⟩) (ny-1) (yc-1)) X')from λx X' e=>bN.U7 hY p hny e);have HXY:=A (And.intro hX hY);clear hX hY hO hM t hB hF j hnx hny r p;rcases hG nx with hx0|hx0
  .rcases hG ny with hy0|hy0
   .subst hx0;subst hy0;go_wp2;go_ret;obtain⟨hO,hM,t,hB,hF,j,_⟩:=HO.o;obtain rfl:=eb HN.o.1;obtain rfl:=eb HN.o.2;simp at hM t;have hOL:no=a2:=(by omega);subst hOL;obtain⟨-,F,-,_⟩:=HX.o;have hO2:bN wr (I oa no oc) a3:=(by unfold bN;rw[j];exact hO);exact⟨oa,oc,rfl,chain HBW.o hB,by rw[F,<-hM];exact hO2,λk e=>bj (bo HBW.o.size (hF k e))⟩
   .subst hx0
    obtain⟨y,y',ye⟩:∃y y',Y=y::y':=by
     cases Y with
     | nil=>have:=HN.o.2;simp at this;omega
     | cons y y'=>exact⟨y,y',rfl⟩
    obtain⟨yg,yo,rfl,y1,yl,⟨⟨T,v,ybi,N,S,R,yvm,D,P,ykm,y2⟩,yr,yn⟩,ys,yt,yt1⟩:=HPY.o y y' ye;subst ye;obtain⟨yk,yhk⟩:∃k:ByteArray,encS y.1.1=E k:=⟨_,rfl⟩;have HYD:=A (bN.U6 ys y2);rw[yhk]at HYD;have HYM:=A (show lL y= [E yk,O K T,ai v,O ac ybi,E N,I S R yvm,I D P ykm] by unfold lL;rw[y2,yhk];rfl);have HYT:=A (And.intro yt (And.intro yt1 y1));
    have yi2:(1:Int)<=(ny:Int):=(by omega);have yi3:(ny:Int)<=(yc:Int):=(by omega);clear y1 y2 yr yn ys yt yt1 yhk;have ney:((ny:Int)==0)=Hf:=(by simp;omega);go_wp2;go_quiet (fail);generalize hW6:iq wr _=m;have f:L wr.heap.size wr m:=(by rw[<-hW6];exact qW (dk _ _));clear hW6;have d:=chain HO.o.2.2.2.1 f;obtain⟨d0,d1,d2,d3,d4,d5,d6⟩:=HYD.o m d;have HW:=A ((ei HO.o.1 (ej (λ_=>False) f) λ_ _=>id).A0 ((ah (λ_=>False) m).A5 (bg #[yk,T,v,O ac ybi,N,I S R yvm,I D P ykm] 336)) λ_ _=>id);have HNW:=A (mE m (E yk) (O K T) (ai v) (O ac ybi) (E N) (I S R yvm) (I D P ykm));have HB6:=A (And.intro f d);clear f d;go_wp2_with (at_builtin;refine bC sZ rfl _ _ rfl rfl HW.o m 1 1 [E yk,O K T,ai v,O ac ybi,E N,I S R yvm,I D P ykm] (by rfl) rfl HNW.o ?_ (by decide) HBM.o.1 HBM.o.2 ?_)
    .intro u hu;simp at hu;rcases hu with rfl|rfl|rfl|rfl|rfl|rfl|rfl<;>rfl
    intro g' off' cap' w' i s n;have HF:=A (And.intro i (And.intro s n));clear i s n d0 d1 d2 d3 d4 d5 d6;have q:(yc=1/\¬yc≠1)\/(¬yc=1/\¬1=yc):=(by omega);rcases q with⟨h1,_⟩|⟨h1,-⟩
    all_goals
     go_wp2_with fail;refine⟨A ?_,by simp[aHN];omega⟩;obtain⟨-,hM,t,-,hF,j,r,p⟩:=HO.o;have hn:=HN.o;refine lT.K8 (x:=y) (wr:=m) j HXY.o.1 (by first|exact HYT.o.1|exact HYT.o.2.1 h1|(subst h1;exact HYT.o.2.1 rfl)) r (λz hz=>p z (jv _ hz)) (by obtain rfl:=eb hn.1;rw[<-hM,ir,ir];simp) (by simp at t⊢;omega) HB6.o.2 hF ((ah (λ_=>False) m).A5 _) (by rw[HYM.o];exact HF.o.1) (HF.o.2.1.imp id λa1=>by have:=a1.1;simp at this⊢;omega) HF.o.2.2
  .obtain⟨x,x',xe⟩:∃x x',X=x::x':=by
    cases X with
    | nil=>have:=HN.o.1;simp at this;omega
    | cons x x'=>exact⟨x,x',rfl⟩
   obtain⟨xg,xo,rfl,x1,xl,⟨⟨xso,xfl,xbi,xtx,xva,xvn,xvm,xka,xkn,xkm,x2⟩,xr,xn⟩,xs,xt,xt1⟩:=HPX.o x x' xe;subst xe;obtain⟨xk,xhk⟩:∃k:ByteArray,encS x.1.1=E k:=⟨_,rfl⟩;have HXD:=A (bN.U6 xs x2);rw[xhk]at HXD;have HXM:=A (show lL x= [E xk,O K xso,ai xfl,O ac xbi,E xtx,I xva xvn xvm,I xka xkn xkm] by unfold lL;rw[x2,xhk];rfl);have HXT:=A (And.intro xt (And.intro xt1 x1));have HXR:=A (And.intro xr (And.intro xn xhk));have xi2:(1:Int)<=(nx:Int):=(by omega);have xi3:(nx:Int)<=(xc:Int):=(by omega);clear x1 x2 xr xn xs xt xt1 xhk;rcases hG ny with hy0|hy0
   .subst hy0;go_wp2;go_quiet (fail);generalize hW6:iq wr _=m;have f:L wr.heap.size wr m:=(by rw[<-hW6];exact qW (dk _ _));clear hW6;have d:=chain HO.o.2.2.2.1 f;obtain⟨d0,d1,d2,d3,d4,d5,d6⟩:=HXD.o m d;have HW:=A ((ei HO.o.1 (ej (λ_=>False) f) λ_ _=>id).A0 ((ah (λ_=>False) m).A5 (bg #[xk,xso,xfl,O ac xbi,xtx,I xva xvn xvm,I xka xkn xkm] 336)) λ_ _=>id);have HNW:=A (mE m (E xk) (O K xso) (ai xfl) (O ac xbi) (E xtx) (I xva xvn xvm) (I xka xkn xkm));have HB6:=A (And.intro f d);clear f d;go_wp2_with (at_builtin;refine bC sZ rfl _ _ rfl rfl HW.o m 1 1 [E xk,O K xso,ai xfl,O ac xbi,E xtx,I xva xvn xvm,I xka xkn xkm] (by rfl) rfl HNW.o ?_ (by decide) HBM.o.1 HBM.o.2 ?_)
    .intro u hu;simp at hu;rcases hu with rfl|rfl|rfl|rfl|rfl|rfl|rfl<;>rfl
    intro g' off' cap' w' i s n;have HF:=A (And.intro i (And.intro s n));clear i s n d0 d1 d2 d3 d4 d5 d6;have q:(xc=1/\¬xc≠1)\/(¬xc=1/\¬1=xc):=(by omega);rcases q with⟨h1,_⟩|⟨h1,-⟩
    all_goals
     go_wp2_with fail;refine⟨A ?_,by simp[aHN];omega⟩;obtain⟨-,hM,t,-,hF,j,r,p⟩:=HO.o;have hn:=HN.o;refine lT.K8 (x:=x) (wr:=m) j (by first|exact HXT.o.1|exact HXT.o.2.1 h1|(subst h1;exact HXT.o.2.1 rfl)) HXY.o.2 (λz hz=>r z (jv _ hz)) p (by obtain rfl:=eb hn.2;rw[<-hM,iu,iu];simp) (by simp at t⊢;omega) HB6.o.2 hF ((ah (λ_=>False) m).A5 _) (by rw[HXM.o];exact HF.o.1) (HF.o.2.1.imp id λa1=>by have:=a1.1;simp at this⊢;omega) HF.o.2.2
   .obtain⟨y,y',ye⟩:∃y y',Y=y::y':=by
     cases Y with
     | nil=>have:=HN.o.2;simp at this;omega
     | cons y y'=>exact⟨y,y',rfl⟩
    obtain⟨yg,yo,rfl,y1,yl,⟨⟨T,v,ybi,N,S,R,yvm,D,P,ykm,y2⟩,yr,yn⟩,ys,yt,yt1⟩:=HPY.o y y' ye;subst ye;obtain⟨yk,yhk⟩:∃k:ByteArray,encS y.1.1=E k:=⟨_,rfl⟩;have HYD:=A (bN.U6 ys y2);rw[yhk]at HYD;have HYM:=A (show lL y= [E yk,O K T,ai v,O ac ybi,E N,I S R yvm,I D P ykm] by unfold lL;rw[y2,yhk];rfl);have HYT:=A (And.intro yt (And.intro yt1 y1));have HYR:=A (And.intro yr (And.intro yn yhk));have yi2:(1:Int)<=(ny:Int):=(by omega);have yi3:(ny:Int)<=(yc:Int):=(by omega);clear y1 y2 yr yn ys yt yt1 yhk
    have hcmp:∀W,ar af 207 #[xk,yk] W λe w'=>e=au (O K (eE x.1.1 y.1.1))/\L W.heap.size W w':=λW=>by
     obtain⟨x1,x2,x3⟩:=HXR.o;obtain⟨y1,y2,y3⟩:=HYR.o;have ex:xk.data.toList=x.1.1:=(by unfold encS at x3;injection x3 with x3;rw[<-x3]);have ey:yk.data.toList=y.1.1:=(by unfold encS at y3;injection y3 with y3;rw[<-y3]);have:=aBQ W xk yk (by rw[<-ex]at x2;simpa using x2) (by rw[<-ey]at y2;simpa using y2) (by rw[ex];exact x1) (by rw[ey];exact y1);rwa[ex,ey]at this
    have HC:=A hcmp;obtain⟨C,hC⟩:∃C,eE x.1.1 y.1.1=C:=⟨_,rfl⟩;rw[hC]at HC;have HCC:=A (show yP x y=decide (C<=0)from by unfold yP mD;rw[hC]);obtain⟨d0,_⟩:=HXD.o wr HO.o.2.2.2.1;obtain⟨c0,_⟩:=HYD.o wr HO.o.2.2.2.1;clear hcmp hC;have hsx:∀W:G,W=W:=λ_=>rfl;have ney:((ny:Int)==0)=Hf:=(by simp;omega);by_cases hle:C<=0
    all_goals
     go_wp2
     go_region_held3 (λw'=>w'.cell? ⟨xg,xo,Z⟩=J (E xk)/\w'.cell? ⟨yg,yo,Z⟩=J (E yk)) (first|with_reducible exact hS|go_keep) ((go_at_call 207;(with_reducible refine(HC.o _).mono ?_);rintro e m ⟨rfl,f⟩;have f:=fA f;have hS:=And.intro (bE f d0) (bE f c0)))
     clear d0 c0 hS
    .skip;have d:=chain HO.o.2.2.2.1 f;obtain⟨-,d1,d2,d3,d4,d5,d6⟩:=HXD.o m d;have HW:=A ((ei HO.o.1 (ej (λ_=>False) f) λ_ _=>id).A0 ((ah (λ_=>False) m).A5 (bg #[xk,xso,xfl,O ac xbi,xtx,I xva xvn xvm,I xka xkn xkm] 336)) λ_ _=>id);have HNW:=A (mE m (E xk) (O K xso) (ai xfl) (O ac xbi) (E xtx) (I xva xvn xvm) (I xka xkn xkm));have HB6:=A (And.intro f d);clear f d;go_wp2_with (at_builtin;refine bC sZ rfl _ _ rfl rfl HW.o m 1 1 [E xk,O K xso,ai xfl,O ac xbi,E xtx,I xva xvn xvm,I xka xkn xkm] (by rfl) rfl HNW.o ?_ (by decide) HBM.o.1 HBM.o.2 ?_)
     .intro u hu;simp at hu;rcases hu with rfl|rfl|rfl|rfl|rfl|rfl|rfl<;>rfl
     intro g' off' cap' w' i s n;have HF:=A (And.intro i (And.intro s n));clear i s n d1 d2 d3 d4 d5 d6;have q:(xc=1/\¬xc≠1)\/(¬xc=1/\¬1=xc):=(by omega);rcases q with⟨h1,_⟩|⟨h1,-⟩
     all_goals
      go_wp2_with fail;refine⟨A ?_,by simp[aHN];omega⟩;obtain⟨-,hM,t,-,hF,j,r,p⟩:=HO.o;refine lT.K8 (x:=x) (wr:=m) j (by first|exact HXT.o.1|exact HXT.o.2.1 h1|(subst h1;exact HXT.o.2.1 rfl)) HXY.o.2 (λz hz=>r z (jv _ hz)) p (by rw[<-hM,iv,pz (by rw[HCC.o];exact decide_eq_true hle)];simp) (by simp at t⊢;omega) HB6.o.2 hF ((ah (λ_=>False) m).A5 _) (by rw[HXM.o];exact HF.o.1) (HF.o.2.1.imp id λa1=>by have:=a1.1;simp at this⊢;omega) HF.o.2.2
    .skip;have d:=chain HO.o.2.2.2.1 f;obtain⟨-,d1,d2,d3,d4,d5,d6⟩:=HYD.o m d;have HW:=A ((ei HO.o.1 (ej (λ_=>False) f) λ_ _=>id).A0 ((ah (λ_=>False) m).A5 (bg #[yk,T,v,O ac ybi,N,I S R yvm,I D P ykm] 336)) λ_ _=>id);have HNW:=A (mE m (E yk) (O K T) (ai v) (O ac ybi) (E N) (I S R yvm) (I D P ykm));have HB6:=A (And.intro f d);clear f d;go_wp2_with (at_builtin;refine bC sZ rfl _ _ rfl rfl HW.o m 1 1 [E yk,O K T,ai v,O ac ybi,E N,I S R yvm,I D P ykm] (by rfl) rfl HNW.o ?_ (by decide) HBM.o.1 HBM.o.2 ?_)
     .intro u hu;simp at hu;rcases hu with rfl|rfl|rfl|rfl|rfl|rfl|rfl<;>rfl
     intro g' off' cap' w' i s n;have HF:=A (And.intro i (And.intro s n));clear i s n d1 d2 d3 d4 d5 d6;have q:(yc=1/\¬yc≠1)\/(¬yc=1/\¬1=yc):=(by omega);rcases q with⟨h1,_⟩|⟨h1,-⟩
     all_goals
      go_wp2_with fail;refine⟨A ?_,by simp[aHN];omega⟩;obtain⟨-,hM,t,-,hF,j,r,p⟩:=HO.o;refine lT.K8 (x:=y) (wr:=m) j HXY.o.1 (by first|exact HYT.o.1|exact HYT.o.2.1 h1|(subst h1;exact HYT.o.2.1 rfl)) r (λz hz=>p z (jv _ hz)) (by rw[<-hM,iv,py (by rw[HCC.o];simpa using hle)];simp) (by simp at t⊢;omega) HB6.o.2 hF ((ah (λ_=>False) m).A5 _) (by rw[HYM.o];exact HF.o.1) (HF.o.2.1.imp id λa1=>by have:=a1.1;simp at this⊢;omega) HF.o.2.2
