/-
  The program, one part of its walk. Conditions: none.
-/
import Derived.Test.YtakkmiomhackiaaGreatDoorBf22
set_option linter.all false
set_option maxRecDepth 100000
set_option maxHeartbeats 16000000
open Go.Proofs.Tryz
open Bool renaming false->K,true->Q
open Except renaming error->ba,ok->bh
open Go renaming Calls->ae,Ending->cw,Leaves->dq,Value->bk,World->U,cell_of_one->bz,free_of_one->dm,heap_alloc_new->bp,leaves_cons->dp,maxLen->cj,results->du,settle->dt
open Go.Ending renaming returned->af
open Go.Instr renaming typeAssert->bc
open Go.IntKind renaming i64->V,u64->bw,u8->Z,wrap_i64->dj
open Go.Obj renaming cells->X
open Go.Proofs.Tryz renaming func112->ck,func56->cr,ntmps112->co,ntmps56->ct,prog->H,results52->dv
open Go.Proofs.YtakkmiomhackiaaGreatDoor.Fr renaming list->cv,object->bj
open Go.Proofs.YtakkmiomhackiaaGreatDoor.Keeps renaming A0->au,A8->ar
open Go.Proofs.YtakkmiomhackiaaGreatDoor.LS renaming at_->av
open Go.Proofs.YtakkmiomhackiaaGreatDoor.Ps renaming C4->et,C9->di,E4->ez,F3->em,J0->ek,J5->ep,J6->bu
open Go.Proofs.YtakkmiomhackiaaGreatDoor.eY renaming N8->eo
open Go.Result renaming ok->aw
open Go.Value renaming agg->E,bool->ai,iface->ah,int->I,nilIface->ak,pointer->Y,slice->R,string->aj,tuple->ag
open Go.World renaming block_lt_of_cell?->ew,setCell->dl
open List renaming drop_drop->dy,drop_eq_getElem_cons->dw,drop_eq_nil_of_le->cz,foldlM->fc,foldlM_append->fa,getElem?_eq_some_iff->dh,length_append->ei,length_cons->cg,length_take->dx,mem_append_left->ej,mem_cons->ee,mem_cons_of_mem->eu,mem_cons_self->ev,mem_of_mem_take->eh
open Nat renaming le_refl->cu,le_trans->ao,lt_of_lt_of_le->bx,zero_le->bm
open Option renaming none->O,some->J
open Or renaming inl->T,inr->ac
namespace Go.Proofs.YtakkmiomhackiaaGreatDoor
open Go.RowKit
variable {s:LS}{b i k p q:Nat}{L S l:Oo}{toks:List Tok}{x y:Ps}{w wr:U}{F G:Nat->Prop}
def aL8{c:UInt8}{t s:Oo}{n:Nat}(d:l7 c t=J (k,n,s,b)):1<=n/\n<=t.length+1:=by
 unfold l7 at d;split at d
 .injection d with d;injection d with _ d;injection d with d _;omega
 .split at d
  .rename_i f;have:=List.length_pos_iff.2 f;split at d
   .cases d
   .have g:=(nA (aH c) (c::t)).2;rw[cg]at g;injection d with d;injection d with _ d;injection d with d _;omega
  .split at d
   .cases e:cM [] 1 t with
    | cut=>rw[e]at d;cases d
    | bad no a=>rw[e]at d;cases d
    | ok x=>
     rw[e]at d;have:=pP e;injection d with d;injection d with _ d;injection d with d _;omega
   .split at d
    .split at d
     .rename_i f;cases e:bitsOf ((c::t).take (dB (c::t)).1)with
      | none=>rw[e]at d;cases d
      | some y=>
       rw[e]at d;injection d with d;injection d with _ d;injection d with d _
       have:=aBM (l:=c::t) (n:=n) (by rw[<-d,<-f]);rw[cg]at this;omega
     .cases d
    .cases d
def aA6(l:List l6):Nat:=l.foldr (λk a=>k.size+a) 0
def aFz:∀(N:Nat)(i:Nat)(toks:List l6),L.length-i<=N->eM i (L.drop i)=J toks->(∀k∈toks,1<=k.size/\k.c+k.size<=L.length)/\aA6 toks<=L.length-i/\toks.length<=L.length-i:=by
 intro N
 induction N with
 | zero=>
  intro i toks t h;rw[cz (by omega)]at h;rw[eM]at h;injection h with h
  subst h;exact⟨λk a=>by simp at a,bm _,bm _⟩
 | succ N l=>
  intro i toks t h
  by_cases hi:i<L.length
  .rw[dw hi]at h
   by_cases c:aI L[i]=Q
   .rw[pQ c]at h;obtain⟨e,m,o⟩:=l (i+1) toks (by omega) h;exact⟨e,by omega,by omega⟩
   .have c:aI L[i]=K:=by simpa using c
    cases d:l7 L[i] (L.drop (i+1))with
    | none=>rw[yI c d]at h;cases h
    | some q=>
     obtain⟨k,n,s,b⟩:=q;rw[wN c d]at h;obtain⟨p,f⟩:=aL8 d;rw[List.length_drop]at f;rw[show(L.drop (i+1)).drop (n-1)=L.drop (i+n) by rw[dy,show i+1+(n-1)=i+n by omega]]at h;cases g:eM (i+n) (L.drop (i+n))with
     | none=>rw[g]at h;cases h
     | some j=>
      rw[g]at h;injection h with h
      subst h;obtain⟨e,m,o⟩:=l (i+n) j (by omega) g;have r:aA6 (⟨k,i,n,s,b⟩::j)=n+aA6 j:=rfl;refine⟨λk a=>?_,by rw[r];omega,by rw[cg];omega⟩;rcases ee.1 a with rfl|a
      .exact⟨p,show i+n<=_ by omega⟩
      .exact e k a
  .rw[cz (by omega)]at h;rw[eM]at h;injection h with h
   subst h;exact⟨λk a=>by simp at a,bm _,bm _⟩
def rowsOf:Nat->List UInt8->List (List UInt8)
 | 0,S=> [S.take 2]
 | n+1,S=>S.take 2::rowsOf n (S.drop 2)
def tC(h:∀c∈S,aI c=Q):∀(n:Nat){e:Oo},(∀c∈e,c∈S)->∀b∈rowsOf n e,∀c∈b,aI c=Q
 | 0,e,f,b,a,c,d=>by
  rw[rowsOf,List.mem_singleton]at a;subst a;exact h c (f c (eh d))
 | n+1,e,f,b,a,c,d=>by
  rw[rowsOf,ee]at a;rcases a with rfl|a
  .exact h c (f c (eh d))
  .exact tC h n (λc d=>f c (List.mem_of_mem_drop d)) b a c d
def oW(L:List UInt8)(toks:List l6)(S:List UInt8)(i:Nat):List UInt8:=spell L (toks.drop i) (rowsOf (toks.length-i) (S.drop (2*i)))
def rest_step{toks:List l6}{k:l6}(h:toks[i]?=J k):oW L toks S i=(S.drop (2*i)).take 2++((L.drop k.c).take k.size++oW L toks S (i+1)):=by
 have hi:=(dh.1 h).1;unfold oW;rw[show toks.drop i=k::toks.drop (i+1) by rw[dw hi];congr 1;exact(dh.1 h).2,show toks.length-i=(toks.length-(i+1))+1 by omega,rowsOf,spell,dy,show 2*i+2=2*(i+1) by omega]
def rest_end(L S:Oo)(toks:List l6):oW L toks S toks.length=(S.drop (2*toks.length)).take 2:=by
 unfold oW;rw[List.drop_length,Nat.sub_self,rowsOf];rfl
def aDD{L:Oo}:∀(toks:List l6)(S:Oo),(spell L toks (rowsOf toks.length S)).length<=2*(toks.length+1)+aA6 toks
 | [],S=>by
  show(S.take 2).length<=_
  rw[dx];simp only[List.length_nil];omega
 | k::a,S=>by
  rw[cg,rowsOf,spell];have h:=aDD (L:=L) a (S.drop 2);have b:aA6 (k::a)=k.size+aA6 a:=rfl;rw[ei,ei,b];have d:(S.take 2).length<=2:=by rw[dx];omega
  have c:((L.drop k.c).take k.size).length<=k.size:=by rw[dx];omega
  omega
def iO(L:List UInt8)(toks:List l6)(S:List UInt8)(i:Nat):List UInt8:=if i<=toks.length then oW L toks S i else []
def aKm{toks:List l6}{k:l6}(h:toks[i]?=J k):iO L toks S i=(S.drop (2*i)).take 2++((L.drop k.c).take k.size++iO L toks S (i+1)):=by
 have hi:=(dh.1 h).1;unfold iO;rw[if_pos (by omega),if_pos (by omega),rest_step h]
def aLA{toks:List l6}(h:i=toks.length):iO L toks S i=(S.drop (2*i)).take 2++iO L toks S (i+1):=by
 subst h;unfold iO;rw[if_pos (cu _),if_neg (by omega),rest_end,List.append_nil]
def aKn{j:Nat}{x:UInt8}(h:S[k+j]?=J x)(b:j<2):(S.drop (k+j)).take (2-j)=x::(S.drop (k+(j+1))).take (2-(j+1)):=by
 obtain⟨a,rfl⟩:=dh.1 h;rw[dw a,show 2-j=(2-(j+1))+1 by omega,List.take_succ_cons,Nat.add_assoc]
def aDE{m:Nat}(a:S.length=m)(h:(k=2*i/\2*i<=m)\/(k=m/\m<=2*i)):S.drop (2*i)=S.drop k:=by
 rcases h with⟨rfl,_⟩|⟨rfl,h⟩
 .rfl
 .rw[cz (by omega),cz (by omega)]
def vN(z:Int):UInt8:=if z%4=0 then 32 else if z%4=1 then 9 else if z%4=2 then 10 else 13
def aDF(z:Int):aI (vN z)=Q:=by
 unfold vN;split
 .rfl
 .split
  .rfl
  .split<;>rfl
def aKv(F:Nat->Prop)(w:U)(p:Nat)(x:Ps)(s:LS)(toks:List Tok)(a:List Fr)(m:Nat)(r:aG F w p x s toks)(d:x.e=a++ [cv m])(y:∀t∈x.b,t.A5.A9=Q)(z:x.b.length<=65536)(hm:∀m,cv m∈x.e->m<=1073741824)(g3:a.length<=1048576):
 ae H 148 #[Y p] w λe w'=>e=af (ag #[])/\Keeps F w w'/\aG (Since F w w') w' p (di {x with e:=a,b:=eI x.b m}) s toks:=by
 obtain⟨h,FL,FM,FP,lb,mb,g4,h2,q,W,hL,hM,hP⟩:=r;rw[d]at hP;obtain⟨g,off,cap,u,rfl,B,g5,C,g6,a0,hQ,g7⟩:=o6 hP;obtain⟨D,rfl,G,L⟩:=g7;have h3:∀w:U,(bc (ah 272 (Y D)) 281 272 Q).run H w=aw (ag #[Y D,ai Q]) w:=λ_=>by kernel_rfl
 have i:=hP.T3 rfl;have N:D≠p:=λe=>q.g.2.2.2 (e▸(hQ D L).1)
 have HM:=A (λ(w1:U)(b:Keeps (λk=>k=p) w w1)(f:w1.heap[p]?=J (X (dM {x with e:=a} lb mb (R (g,off) a.length cap)) 136 (0,0)))=>
  (aEM FM w1.drew mb x.b m (hM.D8 b.B0 (λk r(e:k=p)=>q.g.2.2.1 (e▸r))) y z).mono (R':=λe w2=>(∃v,e=af v)/\Keeps F w w2/\aG (Since F w w2) w2 p {x with e:=a,b:=eI x.b m} s toks) λe w2 ⟨S,c,l⟩=>by
   have j:Keeps FM w1 w2:=⟨c.os,c.tape,c.output,c.size,c.block⟩;have P:Keeps F w w1:=b.mono λk e=>e▸q.g.1
   have:=kW (x:={x with e:=a}) (aF h b.size) q.R0 f (hL.D8 b (λk r e=>q.g.2.1 (e▸r))) (i.A2 b (λk r e=>q.g.2.2.2 (e▸r))) j (λk r=>bx (hM.2.1 k r) b.size) l;exact⟨S,P.O9 this.1,this.2.Q6 b.size j.size h⟩)
 have P:=A (λw2(r:aG (Since F w w2) w2 p {x with e:=a,b:=eI x.b m} s toks)=>pT _ w2 p _ s toks r (λm g8=>hm m (by rw[d];exact ej _ g8)) (by show a.length<=_;omega));have g9:V.wrap ((a.length:Int)+1-1)=(a.length:Int):=by rw[dj];omega
 obtain⟨n,hn⟩:∃n,a.length=n:=⟨_,rfl⟩;have c4:w.cell? ⟨p,4,O⟩=J (R (g,off) (n+1) cap):=by rw[aA W,<-hn];rfl
 have cf:∀o,w.frozen? ⟨p,o,O⟩=K:=free_at W;have j:=aB (o:=4) W (R (g,off) n cap);rw[hn]at g3 B g9 C HM;have h0:=A G;have S:=A N;have h1:=A h;have h4:(0:Int)<=(n:Int):=by omega
 have h5:(n:Int)<=(cap:Int):=by omega
 have l:=A j;clear h q W hL hM hP hQ G L i d y z hm g5 j g6;go_enter func148,ntmps148;go_wp2;go_region;go_wp2;go_region;have b:Keeps (λk=>k=p) w (w.setCell ⟨p,4,O⟩ (R (g,off) n cap)).drew.drew:=((ar (λk=>k=p) w).A3 (p:=⟨p,4,O⟩) (T rfl) _).B0.B0;have f:(w.setCell ⟨p,4,O⟩ (R (g,off) n cap)).drew.drew.heap[p]?=J (X (dM {x with e:=a} lb mb (R (g,off) n cap)) 136 (0,0)):=l.o;have d:=HM.o _ b f;obtain⟨i,h⟩:∃i,(w.setCell ⟨p,4,O⟩ (R (g,off) n cap)).drew.drew=i:=⟨_,rfl⟩;rw[h]at b f d⊢;obtain⟨-,-,-,y,-,-,-,-,-,-,-⟩:=b8 f;have q:i.cell? D=J (I V m):=aA (b.B7 h0.o S.o);have j:=A d;clear b f d h c4 cf B l;go_wp2
 go_region_with (go_at_call 173;refine(j.o).mono ?_;rintro e w2 ⟨⟨v,rfl⟩,c,b⟩)
 all_goals
  have d:=A c;have h:=A (P.o w2 b);clear c b;go_wp2_with fail;refine(h.o).mono ?_;rintro e z ⟨rfl,b,c⟩;have f:=A b;have l:=A c;clear b c;go_wp2
  go_end0
  exact⟨rfl,d.o.O9 f.o,l.o.Q6 d.o.size f.o.size h1.o⟩
def aFX(F:Nat->Prop)(w:U)(p:Nat)(x:Ps)(s:LS)(toks:List Tok)(a:List Fr)(h:List Oo)(z:aG F w p x s toks)(d:x.e=a++ [bj h])(C:∀t∈x.b,t.A5.A9=Q)(D:x.b.length<=65536)(hm:∀m,cv m∈x.e->m<=1073741824)(g9:a.length<=1048576)(G:bK h)(L:h.Nodup)(N:bD h<=2097152):
 ae H 148 #[Y p] w λe w'=>e=af (ag #[])/\Keeps F w w'/\aG (Since F w w') w' p (di {x with e:=a,b:=po x.b h}) s toks:=by
 obtain⟨i,FL,FM,FP,lb,mb,h0,h8,l,hb,hL,hM,hP⟩:=z;rw[d]at hP;obtain⟨g,off,cap,u,rfl,P,h1,S,h2,a0,hQ,h3⟩:=o6 hP;obtain⟨B,mp,kV,rfl,W,g3,j,g4,-,-⟩:=h3;have h9:∀w:U,(bc (ah 275 (Y B)) 281 272 Q).run H w=aw (ag #[Y O,ai K]) w:=λ_=>by kernel_rfl
 have i0:∀w:U,(bc (ah 275 (Y B)) 281 275 Q).run H w=aw (ag #[Y B,ai Q]) w:=λ_=>by kernel_rfl
 obtain⟨ka,kc,g5⟩:=j.1.A7;subst g5;have q:=hP.T3 rfl;have g6:B≠p:=λe=>l.g.2.2.2 (e▸(hQ B g3).1)
 have HM:=A (λ(w1:U)(b:Keeps (λk=>k=p) w w1)(f:w1.heap[p]?=J (X (dM {x with e:=a} lb mb (R (g,off) a.length cap)) 136 (0,0)))=>
  (aCc FM w1.drew mb h.length kc ka x.b h (hM.D8 b.B0 (λk z(e:k=p)=>l.g.2.2.1 (e▸z))) C D (j.1.A2 b.B0 (λk z(e:k=p)=>l.g.2.2.2 (e▸(hQ _ (j.2 k z)).1))) g4 G L N).mono (R':=λe w2=>(∃v,e=af v)/\Keeps F w w2/\aG (Since F w w2) w2 p {x with e:=a,b:=po x.b h} s toks) λe w2 ⟨he,c,y⟩=>by
   have r:Keeps FM w1 w2:=⟨c.os,c.tape,c.output,c.size,c.block⟩;have g7:Keeps F w w1:=b.mono λk e=>e▸l.g.1
   have:=kW (x:={x with e:=a}) (aF i b.size) l.R0 f (hL.D8 b (λk z e=>l.g.2.1 (e▸z))) (q.A2 b (λk z e=>l.g.2.2.2 (e▸z))) r (λk z=>bx (hM.2.1 k z) b.size) y;exact⟨he,g7.O9 this.1,this.2.Q6 b.size r.size i⟩)
 have g7:=A (λw2(z:aG (Since F w w2) w2 p {x with e:=a,b:=po x.b h} s toks)=>pT _ w2 p _ s toks z (λm h4=>hm m (by rw[d];exact ej _ h4)) (by show a.length<=_;omega));have h5:V.wrap ((a.length:Int)+1-1)=(a.length:Int):=by rw[dj];omega
 obtain⟨n,hn⟩:∃n,a.length=n:=⟨_,rfl⟩;have c4:w.cell? ⟨p,4,O⟩=J (R (g,off) (n+1) cap):=by rw[aA hb,<-hn];rfl
 have cf:∀o,w.frozen? ⟨p,o,O⟩=K:=free_at hb;have r:=aB (o:=4) hb (R (g,off) n cap);rw[hn]at g9 P h5 S HM;have h6:=A W;have g8:=A g6;have h7:=A i;have i1:(0:Int)<=(n:Int):=by omega
 have i2:(n:Int)<=(cap:Int):=by omega
 have y:=A r;clear i l hb hL hM hP hQ W g3 q d C D hm h1 r h2 j g4 G L N;go_enter func148,ntmps148;go_wp2;go_region;go_wp2;go_region;have b:Keeps (λk=>k=p) w (w.setCell ⟨p,4,O⟩ (R (g,off) n cap)).drew.drew:=((ar (λk=>k=p) w).A3 (p:=⟨p,4,O⟩) (T rfl) _).B0.B0;have f:(w.setCell ⟨p,4,O⟩ (R (g,off) n cap)).drew.drew.heap[p]?=J (X (dM {x with e:=a} lb mb (R (g,off) n cap)) 136 (0,0)):=y.o;have d:=HM.o _ b f;obtain⟨j,i⟩:∃j,(w.setCell ⟨p,4,O⟩ (R (g,off) n cap)).drew.drew=j:=⟨_,rfl⟩;rw[i]at b f d⊢;obtain⟨-,-,-,C,-,-,-,-,-,-,-⟩:=b8 f;have r:j.cell? B=J (R ka h.length kc):=aA (b.B7 h6.o g8.o);have l:=A d;clear b f d i c4 cf P y;go_wp2
 go_region_with (go_at_call 174;refine(l.o).mono ?_;rintro e w2 ⟨⟨v,rfl⟩,c,b⟩)
 all_goals
  have d:=A c;have i:=A (g7.o w2 b);clear c b;go_wp2_with fail;refine(i.o).mono ?_;rintro e y ⟨rfl,b,c⟩;have f:=A b;have q:=A c;clear b c;go_wp2
  go_end0
  exact⟨rfl,d.o.O9 f.o,q.o.Q6 d.o.size f.o.size h7.o⟩
def aFY{c:List Fr}{k:List Oo}(a:x.e=c++ [bj k])(f:x.a=2\/x.a=3)(e:l∈k):x.J0 b l=ba (101,b):=by
 have d:fP x.e=k:=by unfold fP;rw[a];simp
 unfold ek;rw[if_neg (by omega),d,if_pos e]
def aKw{b:List Fr}{k:List Oo}{c:Nat}(a:x.e=b++ [bj k])(g:x.a=2\/x.a=3)(f:l∉k):x.J0 c l=(em {x with e:=b++ [bj (k++ [l])]} l c).map λp=>{p with a:=4}:=by
 have e:fP x.e=k:=by unfold fP;rw[a];simp
 have d:x.e.dropLast=b:=by rw[a];simp
 unfold ek;rw[if_neg (by omega),e,if_neg f,d]
def aIr{f:Nat->Prop}{a:bk}{b:List Fr}{o:Fr}{c:List bk}(i:eO f w a (b++ [o]) c):
 ∃g off cap u,a=R (J ⟨g,off,O⟩) (b.length+1) cap/\w.cell? ⟨g,off+b.length,O⟩=J u/\f g/\b.length+1<=cap/\cap<=cj/\∃x:Nat->Prop,(∀k,x k->f k/\k≠g)/\jU x w u o/\
  ∀(w':U)(G:Nat->Prop)(h:Fr),Keeps G w w'->(∀k,G k->f k->x k)->jU (Since x w w') w' u h->eO (Since f w w') w' a (b++ [h]) c:=by
 obtain⟨x,u,m,s,j,l⟩:=i.P6;have d:c.length=b.length+1:=by rw[i.c];simp
 rcases i.a.1 with⟨rfl,p⟩|⟨g,off,cap,r,rfl,q,v,-,t,hi⟩
 .rw[p]at d;simp at d
 .refine⟨g,off,cap,u,by rw[d],?_,i.a.2 g rfl,by omega,t,x,λk n=>⟨(m k n).1,λe=>(m k n).2 (by rw[e];rfl)⟩,j,l⟩;rw[aA q];exact hi _ u s
def aG.cells(h:aG G w p x s toks):w.cell? ⟨p,8,O⟩=J ak/\w.cell? ⟨p,9,O⟩=J (ai K)/\(∀o,w.frozen? ⟨p,o,O⟩=K)/\w.cell? ⟨p,5,O⟩=J (I V x.a)/\w.cell? ⟨p,1,O⟩=J (I V x.c):=by
 obtain⟨-,i,m,k,l,j,a,b,-,d,-,-,-⟩:=h;obtain⟨-,c1,-,-,-,g,-,-,c,e,f⟩:=b8 d;exact⟨c,e,f,g,c1⟩
def aKx(F:Nat->Prop)(w:U)(p:Nat)(x:Ps)(s:LS)(toks:List Tok)(i C:Nat)(l:Oo)(N:List Fr)(k:List Oo)(hl:l.length<=16777216)(L:aG F w p x s toks)(v:x.e=N++ [bj k])(m1:N.length<=1048576)(n5:k.length<=4194303)(m2:x.bytes<=1073741824)(hw:x.a=2\/x.a=3):
 ae H 113 #[Y p,E #[i,C,aj ⟨l.toArray⟩]] w λe w'=>cI e/\dL F w p s toks (x.J0 i l) e w':=by
 have j1:=L.lt;have h1:=boxed L (X #[i,C,aj ⟨l.toArray⟩] 241);have r:=bp w (X #[i,C,aj ⟨l.toArray⟩] 241);have k6:¬F w.heap.size:=λhf=>absurd (j1 _ hf) (Nat.lt_irrefl _)
 have m3:=A j1;have m4:=A L.R4;have h3:Keeps F w (w.alloc (X #[i,C,aj ⟨l.toArray⟩] 241)):=(ar F w).A6 _;obtain⟨W,hW⟩:∃W,w.alloc (X #[i,C,aj ⟨l.toArray⟩] 241)=W:=⟨_,rfl⟩;rw[hW]at h1 r h3;have i0:=A h3;have k7:=A h1;obtain⟨h5,FL,FM,FP,lb,mb,m5,k8,hp,hb,hL,hM,hP⟩:=h1;rw[v]at hP;obtain⟨g,off,cap,u,rfl,k9,-,l0,-,a0,hQ,m6,k1⟩:=aIr hP;obtain⟨h,mp,kV,rfl,P,j2,S,i1,i2,j3⟩:=m6;have n6:∀w:U,(bc (ah 275 (Y h)) 281 275 K).run H w=aw (Y h) w:=λ_=>by kernel_rfl
 have i3:l.length<=cj:=by unfold cj;omega
 have m7:V.wrap ((N.length:Int)+1-1)=(N.length:Int):=by rw[dj];omega
 obtain⟨n,hn⟩:∃n,N.length=n:=⟨_,rfl⟩;have c4:W.cell? ⟨p,4,O⟩=J (R (g,off) (n+1) cap):=by rw[aA hb,<-hn];rfl
 rw[hn]at m1 k9 m7 l0;have b0:W.cell? ⟨w.heap.size,0,O⟩=J (I V i):=aA r;have b2:W.cell? ⟨w.heap.size,2,O⟩=J (aj ⟨l.toArray⟩):=aA r;have f0:W.cell? h=J kV:=aA P;have f1:W.cell? ⟨h,1,O⟩=J (.map (J mp)):=aA P;have c5:W.cell? ⟨p,5,O⟩=J (I V x.a):=by rw[aA hb];rfl
 have f:=eo (w:=W.drew.drew) (show eY W.drew.drew mp k.reverse from i2) i3;have G:Keeps (λ_=>False) W (W.alloc (X #[] 101)):=(ar _ W).A6 _;have d:=eo (w:=(W.alloc (X #[] 101)).drew.drew) (show eY (W.alloc (X #[] 101)).drew.drew mp k.reverse from i2.A2 G.B0.B0 id) i3;have m8:(W.alloc (X #[] 101)).cell? ⟨w.heap.size,0,O⟩=J (I V i):=G.B3 b0 id;have k2:(W.alloc (X #[] 101)).cell? ⟨w.heap.size,2,O⟩=J (aj ⟨l.toArray⟩):=G.B3 b2 id;have m9:(W.alloc (X #[] 101)).cell? ⟨h,1,O⟩=J (.map (J mp)):=G.B3 f1 id;have n0:=A (λw=>gZ w 101 i)
 by_cases D:l∈k
 .rw[aFY v hw D];have hd:decide (l∈k.reverse)=Q:=by simpa using D
  rw[hd]at f d;unfold encS at f d;obtain⟨sv,j4⟩:∃sv:ByteArray,(⟨l.toArray⟩:ByteArray)=sv:=⟨_,rfl⟩;rw[j4]at hW f d b2 k2⊢;have a:=A G;clear j1 r hb hL hM hP hp hQ P j2 S i1 i2 j3 hd D v L i3 j4 k6 k1 G h3 h5;rcases hw with hw|hw
  all_goals
   rw[hw]at c5;clear hw;go_enter func113,ntmps113;go_wp2;go_region;go_wp2;go_region
   all_goals
    go_wp2_with fail;refine(n0.o _).mono ?_;rintro e w2 ⟨he,rfl⟩;unfold bT at he;subst he;go_wp2_with fail;exact⟨rfl,ac ⟨_,_,rfl⟩,i0.o.trans a.o.B0.B0 (λ_ L=>L.elim),rfl,k7.o.Q4.A2 a.o.B0.B0 id⟩
 .rw[aKw v hw D];have hd:decide (l∈k.reverse)=K:=by simpa using D
  rw[hd]at f d;obtain⟨z,k3,j8,i4⟩:=eY.C9 (w:=(W.alloc (X #[] 101)).drew.drew.drew) (show eY (W.alloc (X #[] 101)).drew.drew.drew mp k.reverse from i2.A2 G.B0.B0.B0 id) (by rw[List.length_reverse];omega) i3;have h8:Keeps (λq=>q=mp) W z:=(G.B0.B0.B0.mono (λ_ L=>L.elim)).same (mW i4);obtain⟨es,n1,j5,_⟩:=i2;have i5:h≠mp:=λe=>by subst e;rw[j5]at P;cases P
  have l1:w.heap.size≠mp:=λe=>by rw[e,j5]at r;cases r
  have i6:kV.ownBlock≠J mp:=by
   intro e;obtain⟨c,hc⟩:=S.1.E0 e;rw[j5]at hc;cases hc
  have i7:kV.ownBlock≠J h:=by
   intro e;obtain⟨c,hc⟩:=S.1.E0 e;rw[P]at hc;cases hc
  have h6:=h8.B7 P i5;have m:=h8.B7 r l1;have i8:Win 9 encS z kV k:=S.1.A2 h8 (λq e hq=>i6 (by rw[e,hq]));obtain⟨ka,kc,l2⟩:=S.1.A7;have h0:Keeps (λ_=>False) z (z.drew.alloc (X #[aj ⟨l.toArray⟩] 9)):=((ar _ z).B0).A6 _;have l3:=(i8.A2 h0 (λ_ _=>id)).M7
  have i9:∀j u,([aj ⟨l.toArray⟩]:List bk)[j]?=J u->(z.drew.alloc (X #[aj ⟨l.toArray⟩] 9)).cell? ((⟨z.heap.size,0,O⟩:Addr).add j)=J u:=by
   intro j u a;have hp:=vO z.heap.size j;rw[hp]
   show(z.drew.alloc _).cell? ⟨z.drew.heap.size,j,O⟩=_
   rw[aA (bp z.drew _)]
   simpa using a
  have l4:∀u∈([aj ⟨l.toArray⟩]:List bk),u.oneCell'=Q:=λu hu=>by simp at hu;subst hu;rfl
  have l5:(k.length+1)*16<=140737488355328:=by omega
  have j9:k.length+1<=cj:=by unfold cj;omega
  have d0:z.cell? h=J kV:=aA h6;have l6:(z.alloc (X #[aj ⟨l.toArray⟩] 9)).cell? h=J kV:=((ar (λ_=>False) z).A6 _).B3 d0 id;have e1:z.cell? ⟨w.heap.size,2,O⟩=J (aj ⟨l.toArray⟩):=aA m;have l7:(z.alloc (X #[aj ⟨l.toArray⟩] 9)).cell? ⟨w.heap.size,2,O⟩=J (aj ⟨l.toArray⟩):=((ar (λ_=>False) z).A6 _).B3 e1 id;have k4:=A (h0.B7 h6 id)
  have k0:∀(B a b:Nat)(w':U),aQ 1 9 w' (R (B,a) (k.length+1) b) (k.length+1) (k.map encS++ [aj ⟨l.toArray⟩])->(kV.ownBlock=J B\/((z.drew.alloc (X #[aj ⟨l.toArray⟩] 9)).heap.size<=B/\B<w'.heap.size))->Keeps (λq=>kV.ownBlock=J q) (z.drew.alloc (X #[aj ⟨l.toArray⟩] 9)) w'->
   Keeps F W (w'.setCell h (R (B,a) (k.length+1) b))/\aG (Since F W (w'.setCell h (R (B,a) (k.length+1) b))) (w'.setCell h (R (B,a) (k.length+1) b)) p {x with e:=N++ [bj (k++ [l])]} s toks:=by
   intro B a b w' h7 j6 t;have h9:=t.B7 k4.o i7;have j0:Keeps (λq=>q=h) w' (w'.setCell h (R (B,a) (k.length+1) b)):=(ar (λq=>q=h) w').A3 (p:=h) (T rfl) _
   have h2:Keeps (λq=>q=mp\/kV.ownBlock=J q\/q=h) W (w'.setCell h (R (B,a) (k.length+1) b)):=
    (((h8.mono (λq e=>T e)).trans h0 (λ_ L=>L.elim)).trans t (λq e=>T (ac (T e)))).trans j0 (λq e=>T (ac (ac e)))
   have k5:∀q,(q=mp\/kV.ownBlock=J q\/q=h)->a0 q:=λq e=>by
    rcases e with e|e|e
    .exact e▸j3
    .exact S.2 q e
    .exact e▸j2
   have j7:∀q,(q=mp\/kV.ownBlock=J q\/q=h)->FP q:=λq e=>(hQ q (k5 q e)).1
   have l8:Keeps F W (w'.setCell h (R (B,a) (k.length+1) b)):=h2.mono (λq e=>hp.e q (j7 q e))
   have m0:Win 9 encS (w'.setCell h (R (B,a) (k.length+1) b)) (R (B,a) (k.length+1) b) (k++ [l]):=by
    have h1:Win 9 encS w' (R (B,a) (k.length+1) b) (k++ [l]):=aQ.E8 (n:=k.length+1) (by rw[List.map_append];exact h7);exact h1.A2 j0 (λq e hq=>h1.ne h9 (by decide) (e.trans (congrArg J hq)))
   have n2:eY (w'.setCell h (R (B,a) (k.length+1) b)) mp (k++ [l]).reverse:=by
    rw[List.reverse_append];exact((j8.A2 h0 id).A2 t i6).A2 j0 (λe=>i5 e.symm)
   have l9:W.heap.size<=(z.drew.alloc (X #[aj ⟨l.toArray⟩] 9)).heap.size:=ao h8.size h0.size;refine⟨l8,aF h5 l8.size,FL,FM,Since FP W (w'.setCell h (R (B,a) (k.length+1) b)),lb,mb,_,k8,hp.Q8 (h5 p hp.g.1) hL.lt hM.2.1,h2.B7 hb (λe=>hp.g.2.2.2 (j7 p e)),hL.D8 h2 (λq hq e=>hp.c q hq (j7 q e)),hM.D8 h2 (λq hq e=>hp.b q hq (j7 q e)),?_⟩;refine k1 _ _ (bj (k++ [l])) h2 (λq hg _=>k5 q hg) ⟨h,mp,_,rfl,aB h9 _,T j2,⟨m0,?_⟩,λe=>by simp at e,n2,T j3⟩;intro q e;cases e;rcases j6 with L|L
   .exact T (S.2 _ L)
   .exact ac ⟨ao l9 L.1,bx L.2 j0.size⟩
  have h2:∀(B a b:Nat)(w':U),Keeps (λq=>kV.ownBlock=J q) (z.drew.alloc (X #[aj ⟨l.toArray⟩] 9)) w'->(w'.setCell h (R (B,a) (k.length+1) b)).heap[w.heap.size]?=J (X #[i,C,aj ⟨l.toArray⟩] 241 (0,0)):=by
   intro B a b w' t;refine(aE _ ?_).trans (t.B7 (h0.B7 m id) ?_)
   .intro e;rw[e,h6]at m;cases m
   .intro e;obtain⟨c,hc⟩:=i8.E0 e;rw[m]at hc;cases hc
  have j7:=A k0;have j0:=A h2;have l8:=A l3;have l9:=A i9;have m0:=A l4;have n2:=A l5;have n3:=A j9;have n4:=A i7;have k5:=A (λ(w4:U)(h4:aG (Since F W w4) w4 p {x with e:=N++ [bj (k++ [l])]} s toks)=>aBd (Since F W w4) w4 p _ s toks l i h4 (by exact m2) (by omega));obtain⟨o,ho⟩:∃o,em {x with e:=N++ [bj (k++ [l])]} l i=o:=⟨_,rfl⟩;rw[ho]at k5⊢;clear ho;subst l2;unfold encS at f d k3;obtain⟨sv,j4⟩:∃sv:ByteArray,(⟨l.toArray⟩:ByteArray)=sv:=⟨_,rfl⟩;rw[j4]at hW f d k3 b2 k2 l6 e1 l7 k4 j7 j0 l8 l9 m0 k5⊢;have n7:=A h0;clear j1 r hb hL hM hP hp hQ P j2 S i1 j5 j3 hd D v L i3 k6 k1 G h3 h5 k0 h2 l3 i9 l4 l5 j9 i7 i6 i8 m h6 l1 i5 h8 j8 i4 h0;rcases hw with hw|hw
  all_goals
   rw[hw]at c5;clear hw;go_enter func113,ntmps113;go_wp2;go_region;go_wp2;go_region
   all_goals
    go_wp2;go_region;go_wp2
    go_region_law (refine bP sX rfl _ _ rfl rfl l8.o z 1 1 [aj sv] rfl rfl l9.o m0.o (by decide) n2.o n3.o ?_;intro B a b w' h7 j6 t;have t:Keeps (λq=>(R ka k.length kc).ownBlock=J q) (z.drew.alloc (X #[sv] 9)) w':=t;have h9:=t.B7 k4.o n4.o;have r:w'.cell? h=J (R ka k.length kc):=aA h9;have v:=free_at h9)
    all_goals
     have f1:=j7.o B a b w' h7 j6 t;have m:=j0.o B a b w' t;clear h7 j6 t h9 r v d0 l6 e1 l7 b0 b2 m8 k2 m9 f d k3 c4 c5 k9 f0;obtain⟨w4,D⟩:∃w4,w'.setCell h (R (B,a) (k.length+1) b)=w4:=⟨_,rfl⟩;rw[D]at f1 m;have x0:w4.cell? ⟨w.heap.size,0,O⟩=J (I V i):=aA m;have x2:w4.cell? ⟨w.heap.size,2,O⟩=J (aj sv):=aA m;have G:=A (k5.o w4 f1.2);have v:=A f1.1;clear f1 m;go_wp2_with fail;refine(G.o).mono ?_;rintro e S ⟨-,r,d⟩;have m:Keeps F w S:=(i0.o.same v.o).trans r (λq L=>L.elim T (λL=>ac (ao i0.o.size L.1)));have f:=A m;have P:=A r.size;clear r m;cases o with
     | error r=>
      obtain⟨no,a2⟩:=r;obtain⟨he,m⟩:=d;have HD:=A m;clear m;unfold bT at he;subst he;go_wp2_with fail;exact⟨rfl,ac ⟨_,_,rfl⟩,f.o,rfl,HD.o⟩
     | ok y=>
      obtain⟨he,m⟩:=d;subst he;obtain⟨-,-,yf,y5,-⟩:=m.cells;have r:=A (o7 m 4);clear m x0 x2;go_wp2
      go_end0
      have i1:Keeps F w (S.setCell ⟨p,5,O⟩ (I V 4)):=f.o.A3 (p:=⟨p,5,O⟩) (T m4.o) _;refine⟨T rfl,i1,rfl,r.o.2.mono ?_ (aF m3.o i1.size)⟩;intro q L;rcases L with L|L
      .rcases L with L|L
       .rcases L with L|L
        .exact T L
        .exact ac ⟨ao i0.o.size L.1,by have:=P.o;have:=L.2;simp[dl];omega⟩
       .exact ac ⟨ao i0.o.size (ao v.o.size L.1),by have:=L.2;simp[dl];omega⟩
      .exact ac ⟨ao f.o.size L.1,L.2⟩
def fB.P6{D want:Nat}{a:List Fr}{b:List Tr}(h:fB D want a b)(e:want=5\/want=1\/want=2):∃c f,a=c++ [f]:=by
 cases h with
 | new=>omega
 | done t d=>omega
 | list s _ h d e=>exact⟨_,_,rfl⟩
 | object k s _ h d g=>exact⟨_,_,rfl⟩
def cH.R5(h:cH x q):rF x 1073741824:=⟨λm a=>ao (h.Q3 m a) (by decide),by have:=h.c;have:=h.h;omega⟩
def zI(y:Ps)(k:UInt8)(b:(93:UInt8)≠k)(a:(125:UInt8)≠k):y.J5 k=K:=by
 unfold ep;cases d:y.e.getLast? with
 | none=>rfl
 | some f=>
  cases f with
  | list n=>simp[wQ,b]
  | object c=>simp[wQ,a]
def aKy(F:Nat->Prop)(w:U)(p:Nat)(y:Ps)(s:LS)(rest:List Tok)(a g:Nat)(l:Oo){q:Nat}(o:aV l=Q)(n:l.length<=16777216)(h:aG F w p y s rest)(b:cH y q):
 ae H 113 #[Y p,E #[a,g,aj ⟨l.toArray⟩]] w λe w'=>cI e/\dL F w p s rest (y.J0 a l) e w':=by
 have t:=b.bytes;have hi:=b.O5;have r:=b.h;have d:=b.c
 by_cases j:y.a=2\/y.a=3
 .obtain⟨c,k,f,_⟩:=b.b.O3 j l;have m:=b.Q1 (k:=k) (by rw[f];simp);have u:=aBc m.2.1;have i:c.length<=1048576:=by rw[f]at d;simp at d;omega
  exact aKx F w p y s rest a g l c k n h f i (by omega) (by omega) j
 .exact aFT F w p y s rest a g l o (by omega) h b.R5 (by omega) (by omega) (by omega)
def aFZ(F:Nat->Prop)(w:U)(p:Nat)(x y:Ps)(s:LS)(toks:List Tok)(a:Nat)(h:aG F w p x s toks)(z:x.J5 93=Q)(v:x.e.length<=1048576)(c:∀w1,aG F w1 p x s toks->ae H 148 #[Y p] w1 λe w2=>e=af (ag #[])/\Keeps F w1 w2/\aG (Since F w1 w2) w2 p y s toks):
 ae H 112 #[Y p,E #[a,I V 1,I Z 93]] w λe w'=>cI e/\dL F w p s toks (bh y) e w':=by
 have i:=h.lt;have r:=boxed h (X #[a,I V 1,I Z 93] 238);have d:=bp w (X #[a,I V 1,I Z 93] 238);have b2:(w.alloc (X #[a,I V 1,I Z 93] 238)).cell? ⟨w.heap.size,2,O⟩=J (I Z 93):=aA d;have j:=A i;have b:=mK F _ p x s toks 93 r v;rw[z]at b;rw[show((((93:UInt8)).toNat:Nat):Int)=93 from rfl]at b;have t:=A b;have n:=A c;have B:=A r;clear h r i d b c z v;go_enter ck,co;go_wp2_with fail;refine(t.o).mono ?_;rintro e w1 ⟨rfl,g⟩;have C:=A (n.o w1 (B.o.A4 g));have f:=A g;clear g b2;go_wp2_with fail;refine(C.o).mono ?_;rintro e w2 ⟨rfl,k,l⟩;have m:=A k;have u:=A l;clear k l;go_wp2
 go_end0
 refine⟨T rfl,tL (o:=X #[a,I V 1,I Z 93] 238) j.o ⟨(au F f.o).same m.o,rfl,u.o.mono (λq h=>h.elim T (λh=>ac ⟨ao f.o.size h.1,h.2⟩)) (aF (λq h=>bx (j.o q h) (by simp)) (ao f.o.size m.o.size))⟩⟩
def aDZ(F:Nat->Prop)(w:U)(p:Nat)(x y:Ps)(s:LS)(toks:List Tok)(a:Nat)(h:aG F w p x s toks)(z:x.J5 125=Q)(v:x.e.length<=1048576)(c:∀w1,aG F w1 p x s toks->ae H 148 #[Y p] w1 λe w2=>e=af (ag #[])/\Keeps F w1 w2/\aG (Since F w1 w2) w2 p y s toks):
 ae H 112 #[Y p,E #[a,I V 1,I Z 125]] w λe w'=>cI e/\dL F w p s toks (bh y) e w':=by
 have i:=h.lt;have r:=boxed h (X #[a,I V 1,I Z 125] 238);have d:=bp w (X #[a,I V 1,I Z 125] 238);have b2:(w.alloc (X #[a,I V 1,I Z 125] 238)).cell? ⟨w.heap.size,2,O⟩=J (I Z 125):=aA d;have j:=A i;have b:=mK F _ p x s toks 125 r v;rw[z]at b;rw[show((((125:UInt8)).toNat:Nat):Int)=125 from rfl]at b;have t:=A b;have n:=A c;have B:=A r;clear h r i d b c z v;go_enter ck,co;go_wp2_with fail;refine(t.o).mono ?_;rintro e w1 ⟨rfl,g⟩;have C:=A (n.o w1 (B.o.A4 g));have f:=A g;clear g b2;go_wp2_with fail;refine(C.o).mono ?_;rintro e w2 ⟨rfl,k,l⟩;have m:=A k;have u:=A l;clear k l;go_wp2
 go_end0
 refine⟨T rfl,tL (o:=X #[a,I V 1,I Z 125] 238) j.o ⟨(au F f.o).same m.o,rfl,u.o.mono (λq h=>h.elim T (λh=>ac ⟨ao f.o.size h.1,h.2⟩)) (aF (λq h=>bx (j.o q h) (by simp)) (ao f.o.size m.o.size))⟩⟩
def aF0(F:Nat->Prop)(w:U)(p:Nat)(x y:Ps)(s:LS)(toks:List Tok)(a:Nat)(h:aG F w p x s toks)(i:x.J5 58=K)(v:x.a≠4)(q:x.e.length<=1048576):
 ae H 112 #[Y p,E #[a,I V 1,I Z 58]] w λe w'=>cI e/\dL F w p s toks (ba (120,a)) e w':=by
 have k:=h.lt;have j:=boxed h (X #[a,I V 1,I Z 58] 238);have b:=bp w (X #[a,I V 1,I Z 58] 238);have b2:(w.alloc (X #[a,I V 1,I Z 58] 238)).cell? ⟨w.heap.size,2,O⟩=J (I Z 58):=aA b;have f:=A b;have c:=mK F _ p x s toks 58 j q;rw[i]at c;rw[show((((58:UInt8)).toNat:Nat):Int)=58 from rfl]at c;have u:((x.a:Int)==4)=K:=by simp;omega
 have G:(w.alloc (X #[a,I V 1,I Z 58] 238)).cell? ⟨p,5,O⟩=J (I V x.a):=by
  obtain⟨_,B,N,D,L,C,l,o,-,t,-,-,-⟩:=j;rw[aA t];rfl
 have n:=A c;have z:=A j.Q4;have m:=A (λw=>gZ w 120 a);clear h j k b c i q v;go_enter ck,co;go_wp2_with fail;refine(n.o).mono ?_;rintro e w1 ⟨rfl,d⟩;have r:w1.cell? ⟨w.heap.size,0,O⟩=J (I V a):=aA (keep f.o d);have g:=A d;clear d b2;go_wp2_with fail;refine(m.o _).mono ?_;rintro e w2 ⟨i,rfl⟩;unfold bT at i;subst i;go_wp2_with fail;exact⟨rfl,ac ⟨_,_,rfl⟩,((ar F w).A6 _).same (au F g.o),rfl,z.o.A2 (au (λ_=>False) g.o) id⟩
def aF1(F:Nat->Prop)(w:U)(p:Nat)(x y:Ps)(s:LS)(toks:List Tok)(a:Nat)(h:aG F w p x s toks)(i:x.J5 44=K)(v:x.a≠5)(q:x.e.length<=1048576):
 ae H 112 #[Y p,E #[a,I V 1,I Z 44]] w λe w'=>cI e/\dL F w p s toks (ba (120,a)) e w':=by
 have k:=h.lt;have j:=boxed h (X #[a,I V 1,I Z 44] 238);have b:=bp w (X #[a,I V 1,I Z 44] 238);have b2:(w.alloc (X #[a,I V 1,I Z 44] 238)).cell? ⟨w.heap.size,2,O⟩=J (I Z 44):=aA b;have f:=A b;have c:=mK F _ p x s toks 44 j q;rw[i]at c;rw[show((((44:UInt8)).toNat:Nat):Int)=44 from rfl]at c;have u:((x.a:Int)==5)=K:=by simp;omega
 have G:(w.alloc (X #[a,I V 1,I Z 44] 238)).cell? ⟨p,5,O⟩=J (I V x.a):=by
  obtain⟨_,B,N,D,L,C,l,o,-,t,-,-,-⟩:=j;rw[aA t];rfl
 have n:=A c;have z:=A j.Q4;have m:=A (λw=>gZ w 120 a);clear h j k b c i q v;go_enter ck,co;go_wp2_with fail;refine(n.o).mono ?_;rintro e w1 ⟨rfl,d⟩;have r:w1.cell? ⟨w.heap.size,0,O⟩=J (I V a):=aA (keep f.o d);have g:=A d;clear d b2;go_wp2_with fail;refine(m.o _).mono ?_;rintro e w2 ⟨i,rfl⟩;unfold bT at i;subst i;go_wp2_with fail;exact⟨rfl,ac ⟨_,_,rfl⟩,((ar F w).A6 _).same (au F g.o),rfl,z.o.A2 (au (λ_=>False) g.o) id⟩
def aF2(F:Nat->Prop)(w:U)(p:Nat)(x y:Ps)(s:LS)(toks:List Tok)(a:Nat)(h:aG F w p x s toks)(i:x.J5 93=K)(n:x.e.length<=1048576):
 ae H 112 #[Y p,E #[a,I V 1,I Z 93]] w λe w'=>cI e/\dL F w p s toks (ba (120,a)) e w':=by
 have j:=h.lt;have l:=boxed h (X #[a,I V 1,I Z 93] 238);have b:=bp w (X #[a,I V 1,I Z 93] 238);have b2:(w.alloc (X #[a,I V 1,I Z 93] 238)).cell? ⟨w.heap.size,2,O⟩=J (I Z 93):=aA b;have f:=A b;have c:=mK F _ p x s toks 93 l n;rw[i]at c;rw[show((((93:UInt8)).toNat:Nat):Int)=93 from rfl]at c;have m:=A c;have q:=A l.Q4;have k:=A (λw=>gZ w 120 a);clear h l j b c i n;go_enter ck,co;go_wp2_with fail;refine(m.o).mono ?_;rintro e w1 ⟨rfl,d⟩;have o:w1.cell? ⟨w.heap.size,0,O⟩=J (I V a):=aA (keep f.o d);have g:=A d;clear d b2;go_wp2_with fail;refine(k.o _).mono ?_;rintro e w2 ⟨i,rfl⟩;unfold bT at i;subst i;go_wp2_with fail;exact⟨rfl,ac ⟨_,_,rfl⟩,((ar F w).A6 _).same (au F g.o),rfl,q.o.A2 (au (λ_=>False) g.o) id⟩
def aD0(F:Nat->Prop)(w:U)(p:Nat)(x y:Ps)(s:LS)(toks:List Tok)(a:Nat)(h:aG F w p x s toks)(i:x.J5 125=K)(n:x.e.length<=1048576):
 ae H 112 #[Y p,E #[a,I V 1,I Z 125]] w λe w'=>cI e/\dL F w p s toks (ba (120,a)) e w':=by
 have j:=h.lt;have l:=boxed h (X #[a,I V 1,I Z 125] 238);have b:=bp w (X #[a,I V 1,I Z 125] 238);have b2:(w.alloc (X #[a,I V 1,I Z 125] 238)).cell? ⟨w.heap.size,2,O⟩=J (I Z 125):=aA b;have f:=A b;have c:=mK F _ p x s toks 125 l n;rw[i]at c;rw[show((((125:UInt8)).toNat:Nat):Int)=125 from rfl]at c;have m:=A c;have q:=A l.Q4;have k:=A (λw=>gZ w 120 a);clear h l j b c i n;go_enter ck,co;go_wp2_with fail;refine(m.o).mono ?_;rintro e w1 ⟨rfl,d⟩;have o:w1.cell? ⟨w.heap.size,0,O⟩=J (I V a):=aA (keep f.o d);have g:=A d;clear d b2;go_wp2_with fail;refine(k.o _).mono ?_;rintro e w2 ⟨i,rfl⟩;unfold bT at i;subst i;go_wp2_with fail;exact⟨rfl,ac ⟨_,_,rfl⟩,((ar F w).A6 _).same (au F g.o),rfl,q.o.A2 (au (λ_=>False) g.o) id⟩
def aKz(F:Nat->Prop)(w:U)(p:Nat)(y:Ps)(s:LS)(rest:List Tok)(a:Nat)(o:UInt8)(h:aG F w p y s rest)(j:cH y 0)(G:aY o=Q):
 ae H 112 #[Y p,E #[a,I V 1,I Z o.toNat]] w λe w'=>cI e/\dL F w p s rest (y.J6 po a o) e w':=by
 have N:=j.h;have L:=j.c;have c:y.e.length<=1048576:=by omega
 have v:=j.R5
 have t:o=123\/o=125\/o=91\/o=93\/o=58\/o=44:=by
  unfold aY at G
  simpa[or_assoc]using G
 have n:∀k:UInt8,y.J5 k=Q->∀w1,aG F w1 p y s rest->ae H 148 #[Y (J ⟨p,0,O⟩)] w1 λe w2=>e=af (ag #[])/\Keeps F w1 w2/\aG (Since F w1 w2) w2 p (y.C4 po) s rest:=by
  intro k f w1 D
  have i:y.a=5\/y.a=1\/y.a=2:=by
   unfold ep at f;simp at f;omega
  obtain⟨d,z,g⟩:=j.b.P6 i;have l:d.length<=1048576:=by rw[g]at c;simp at c;omega
  cases z with
  | list m=>
   have B:y.C4 po=di {y with e:=d,b:=eI y.b m}:=by
    have q:y.e.getLast?=J (cv m):=by rw[g];simp
    have r:y.e.dropLast=d:=by rw[g];simp
    unfold et;rw[q,r]
   rw[B];exact aKv F w1 p y s rest d m D g j.P9 j.O5 v.a l
  | object u=>
   have B:y.C4 po=di {y with e:=d,b:=po y.b u}:=by
    have q:y.e.getLast?=J (bj u):=by rw[g];simp
    have r:y.e.dropLast=d:=by rw[g];simp
    unfold et;rw[q,r]
   rw[B];have x:=j.Q1 (k:=u) (by rw[g];simp);exact aFX F w1 p y s rest d u D g j.P9 j.O5 v.a l x.1 x.2.1 (ao x.2.2 j.bytes)
 rcases t with rfl|rfl|rfl|rfl|rfl|rfl
 .have f:y.J6 po a 123=(y.D0 a).map λp=>{p with e:=p.e++ [bj []],a:=2}:=by unfold bu;rw[if_neg (by decide),if_pos rfl]
  rw[f];exact aFV F w p y s rest a h j.g c
 .have f:y.J6 po a 125=if y.J5 125 then bh (y.C4 po)else ba (120,a):=by unfold bu;rw[if_neg (by decide),if_neg (by decide),if_neg (λh=>absurd h.1 (by decide)),if_neg (λh=>absurd h.1 (by decide))]
  rw[f];cases b:y.J5 125 with
  | true=>exact aDZ F w p y _ s rest a h b c (n 125 b)
  | false=>exact aD0 F w p y y s rest a h b c
 .have f:y.J6 po a 91=(y.D0 a).map λp=>{p with e:=p.e++ [cv 0],a:=1}:=by unfold bu;rw[if_pos rfl]
  rw[f];exact aIn F w p y s rest a h j.g c
 .have f:y.J6 po a 93=if y.J5 93 then bh (y.C4 po)else ba (120,a):=by unfold bu;rw[if_neg (by decide),if_neg (by decide),if_neg (λh=>absurd h.1 (by decide)),if_neg (λh=>absurd h.1 (by decide))]
  rw[f];cases b:y.J5 93 with
  | true=>exact aFZ F w p y _ s rest a h b c (n 93 b)
  | false=>exact aF2 F w p y y s rest a h b c
 .have b:y.J5 58=K:=zI y 58 (by decide) (by decide)
  by_cases i:y.a=4
  .have f:y.J6 po a 58=bh {y with a:=0}:=by unfold bu;rw[if_neg (by decide),if_neg (by decide),if_pos ⟨rfl,i⟩]
   rw[f];exact aFW F w p y s rest a h i
  .have f:y.J6 po a 58=ba (120,a):=by unfold bu;rw[if_neg (by decide),if_neg (by decide),if_neg (λh=>i h.2),if_neg (λh=>absurd h.1 (by decide)),if_neg (by rw[b];decide)]
   rw[f];exact aF0 F w p y y s rest a h b i c
 .have b:y.J5 44=K:=zI y 44 (by decide) (by decide)
  by_cases i:y.a=5
  .have f:y.J6 po a 44=bh {y with a:=if jB y.e then 3 else 0}:=by unfold bu;rw[if_neg (by decide),if_neg (by decide),if_neg (λh=>absurd h.1 (by decide)),if_pos ⟨rfl,i⟩]
   rw[f];obtain⟨d,z,g⟩:=j.b.P6 (T i);have l:d.length<=1048576:=by rw[g]at c;simp at c;omega
   cases z with
   | list m=>
    have C:jB y.e=K:=by rw[g];unfold jB;simp
    rw[C];exact wE F w p y s rest a h i d m g l
   | object u=>
    have C:jB y.e=Q:=by rw[g];unfold jB;simp
    rw[C];exact tM F w p y s rest a h i d u g l
  .have f:y.J6 po a 44=ba (120,a):=by unfold bu;rw[if_neg (by decide),if_neg (by decide),if_neg (λh=>absurd h.1 (by decide)),if_neg (λh=>i h.2),if_neg (by rw[b];decide)]
   rw[f];exact aF1 F w p y y s rest a h b i c
def cH.R9(h:cH x q):rF x 1073741824:=⟨λm a=>ao (h.Q3 m a) (by decide),by have:=h.c;have:=h.h;omega⟩
def aIs(w:U)(a n b:Nat):ae H 357 #[E #[a,n,I bw b]] w λe w'=>e=af (ah 107 (.float .f64 b))/\Below w w w':=by
 have c:=oA b;go_enter func357,ntmps357;go_wp2;go_ret;exact⟨rfl,(Below.refl _ _).alloc (cu _) _⟩
def pU(w:U)(p:Nat):Nat:=match w.cell? ⟨p,2,O⟩with
 | some (Y (J a))=>match w.cell? ⟨a.block,13,O⟩with
  | some (R _ n _)=>n
  | _=>0
 | _=>0
def lI.S0(h:lI F w b toks s):∃a c,w.cell? ⟨b,13,O⟩=J (R a toks.length c):=by
 cases s with
 | at_ x q=>
  obtain⟨-,-,j,k,g,d,e,f,-⟩:=h;obtain⟨a,c,rfl⟩:=f.1.A7;refine⟨a,c,?_⟩;rw[aA e];simp
 | dead pl v i=>
  obtain⟨-,-,r,l,u,m,p,z,n,t,o,y,d,e,f⟩:=h;obtain⟨a,c,rfl⟩:=f.1.A7;refine⟨a,c,?_⟩;rw[aA e];simp
def aG.S0(h:aG F w p x s toks):pU w p=toks.length:=by
 obtain⟨-,k,n,m,i,l,b,d,-,f,g,-,-⟩:=h;obtain⟨a,c,j⟩:=g.S0;have e:w.cell? ⟨p,2,O⟩=J (Y i):=by rw[aA f];rfl
 unfold pU;rw[e];simp only[j]
def o8(F:Nat->Prop)(w:U)(p:Nat)(x:Ps)(s:LS)(t:Tok)(toks:List Tok)(h:aG F w p x s (t::toks))(z:toks.length<=999):∃a,w.cell? ⟨p,2,O⟩=J (Y (J ⟨a,0,O⟩))/\
 ae H 111 #[Y (J ⟨a,0,O⟩)] w λe w'=>e=af (ag #[bU t,ai Q])/\Keeps F w w'/\aG (Since F w w') w' p x s toks:=by
 obtain⟨j,n,r,q,a,v,b,d,i,o,g,u,B⟩:=h;refine⟨a,by rw[aA o];rfl,(aDT n w a t toks s g z).mono ?_⟩;rintro e w' ⟨rfl,l,c⟩;have m:∀(C:Nat->Prop),¬C a->∀k,C k->¬k=a:=λC y k c e=>y (e▸c)
 have f:Keeps F w w':=c.mono λk e=>e▸i.d a g.block
 refine⟨rfl,f,aF j f.size,n,r,q,a,v,b,d,i.R0,c.B7 o (λe=>i.g.2.1 (e▸g.block)),l,u.D8 c (m r (λh=>i.f a g.block h)),B.A2 c (m q (λh=>i.c a g.block h))⟩
def o9(F:Nat->Prop)(w:U)(p:Nat)(x:Ps)(s:LS)(h:aG F w p x s []):∃a,w.cell? ⟨p,2,O⟩=J (Y (J ⟨a,0,O⟩))/\
 ae H 111 #[Y (J ⟨a,0,O⟩)] w λe w'=>e=af (ag #[ak,ai K])/\w'=w:=by
 obtain⟨-,d,k,i,a,j,b,c,-,f,g,-,-⟩:=h;exact⟨a,by rw[aA f];rfl,aCd d w a s g⟩

def mL(t:Tok):∃a u,bU t=ah a u:=by cases t<;>exact⟨_,_,rfl⟩
def aD1(F:Nat->Prop)(w:U)(p:Nat)(s:LS)(a:Out)(t b:bk)(wr:U):Prop:=
 ∃y q,Keeps F w wr/\cH y q/\∃rest,aG (Since F w wr) wr p y s rest/\(∀t∈rest,qE t)/\rest.length<=998/\
  ((∃tk,iW q y.a (tk::rest)/\t=bU tk/\b=ai Q/\qE tk/\y.D3 po (tk::rest)=a)\/(t=ak/\b=ai K/\rest= []/\a=bh y))
def mM(p:Nat)(a:bk)(w:U):Nat:=match a with
 | .bool Q=>1+pU w p
 | _=>0
def tN{n:U}{rest:List Tok}{tk:Tok}{c o:Out}{f:Nat}{args:Array bk}(r:∀k,F k->k<w.heap.size)(j:Keeps F w wr)(d:Keeps (λ_=>False) wr n)(B:cH y q)(u:qE tk)(m:aE5 q y.a tk)(x:y.C5 po tk=o)(b:y.D3 po (tk::rest)=c)
 (g:ae H f args n λe w'=>cI e/\dL (Since F w wr) n p s rest o e w'):
 ae H f args n λe w'=>Keeps F w w'/\((∃l:Nat×Nat,e=bT l.1 l.2/\iA w' p/\c=ba l)\/(∃z,e=af (ag #[])/\cH z 0/\aG (Since F w w') w' p z s rest/\z.D3 po rest=c)):=by
 refine g.mono λe w' ⟨_,v,a⟩=>?_
 have i:Keeps F w w':=(j.O9 (d.mono λ_ h=>h.elim)).trans v (λk h=>h.elim T (λh=>ac h.1));refine⟨i,?_⟩;rw[eT,x]at b;cases o with
 | error l=>
  obtain⟨no,t⟩:=l;exact T ⟨(no,t),a.1,a.2,b.symm⟩
 | ok z=>
  refine ac ⟨z,a.1,B.C5 u m x,?_,b⟩;exact a.2.mono (λk h=>h.elim (λh=>h.N6 (ao d.size v.size)) (λh=>ac ⟨ao j.size (ao d.size h.1),h.2⟩)) (aF r i.size)
def kO{a:U}{z:Ps}(_h:aG G a p z s []):mM p (ai K) a<mM p (ai Q) wr:=by
 show 0<1+pU wr p
 omega
def kP{c:Nat->Prop}{a:U}{z:Ps}{b:LS}{t:Tok}{rest:List Tok}(h:aG c wr p y b (t::rest))(d:aG G a p z s rest):mM p (ai Q) a<mM p (ai Q) wr:=by
 show 1+pU a p<1+pU wr p
 rw[h.S0,d.S0,cg];omega
def aBf(F:Nat->Prop)(w:U)(p:Nat)(x:Ps)(s:LS)(toks:List Tok)(q:Nat)(v:aG F w p x s toks)(c:∀t∈toks,qE t)(f:cH x q)(j:iW q x.a toks)(g:toks.length<=999):
 ae H 79 #[Y p] w λe w'=>cI e/\dL F w p s [] (x.D3 po toks) e w':=by
 have d:=v.lt;have L:=A d;obtain⟨D,b⟩:∃D,x.D3 po toks=D:=⟨_,rfl⟩;rw[b]
 have g1:∃lb t ok,w.cell? ⟨p,2,O⟩=J (Y (J ⟨lb,0,O⟩))/\(∃h0,ok=ai h0)/\(t=ak\/∃a0 u,t=ah a0 u)/\ae H 111 #[Y (J ⟨lb,0,O⟩)] w λe w'=>e=af (ag #[t,ok])/\aD1 F w p s D t ok w':=by
  cases toks with
  | nil=>
   obtain⟨lb,h,i⟩:=o9 F w p x s v;refine⟨lb,ak,ai K,h,⟨_,rfl⟩,T rfl,i.mono ?_⟩;rintro e w' ⟨rfl,rfl⟩;exact⟨rfl,x,q,ar _ _,f,[],v.mono (λk v=>T v) (aF d (cu _)),λ_ v=>by simp at v,by simp,ac ⟨rfl,rfl,rfl,b.symm⟩⟩
  | cons t rest=>
   obtain⟨lb,h,i⟩:=o8 F w p x s t rest v (by simp at g;omega);refine⟨lb,bU t,ai Q,h,⟨_,rfl⟩,ac (mL t),i.mono ?_⟩;rintro e w' ⟨rfl,m,n⟩;exact⟨rfl,x,q,m,f,rest,n,λt v=>c t (eu _ v),by simp at g;omega,T ⟨t,j,rfl,rfl,c t (ev ..),b⟩⟩
 obtain⟨lb,t0,i0,N,⟨h0,rfl⟩,h5,i⟩:=g1;have G:=A i;clear v c f j g b d i;rcases h5 with rfl|⟨T0,u0,rfl⟩
 all_goals
  go_enter func79,ntmps79;go_wp2_with fail;refine(G.o).mono ?_;rintro e w1 ⟨rfl,c⟩;have h2:=A c;clear c;go_wp2
  go_loopw [2,3] (λt ok wr=>M (aD1 F w p s D t ok wr)) (λ_ ok wr=>mM p ok wr)
  case atStart=>exact h2.o.elim λy v=>A ⟨y,v⟩
  case round=>
   obtain⟨y,q,m,B,rest,c,o,j,g6⟩:=hrel.o;clear hrel;have g3:=A c;have h6:=A m;rcases g6 with⟨tk,n,rfl,rfl,f,b⟩|⟨rfl,rfl,rfl,b⟩
   .have h7:=A n;have h3:=A j;have g4:=A o;rcases tk with⟨a,sg⟩|⟨a,d,l⟩|⟨a,d,P⟩|⟨a,d,l⟩
    focus
     rw[show bU (.mark a sg)=ah 238 (E #[a,I V 1,I Z sg.toNat])from rfl];have g7:∀w:U,(bc (ah 238 (E #[a,I V 1,I Z sg.toNat])) 232 238 Q).run H w=aw (ag #[E #[a,I V 1,I Z sg.toNat],ai Q]) w:=λ_=>by kernel_rfl
     have g:Keeps (λ_=>False) wr (wr.alloc (X #[a,I V 1,I Z sg.toNat] 238)):=(ar _ wr).A6 _;obtain rfl:q=0:=n.1;have h:=aKz _ _ p y s rest a sg (c.D8 g (λ_ _=>id)) B f;have HC:=A (tN (tk:=.mark a sg) L.o m g B f n.1 rfl b h);clear c m B o n j N h f b g;go_wp2_with fail;refine(HC.o).mono ?_
    rotate_left
    focus
     obtain⟨r,C⟩:∃r:ByteArray,(⟨l.toArray⟩:ByteArray)=r:=⟨_,rfl⟩;have S:bU (.term a d l)=ah 309 (E #[a,d,r]):=by rw[<-C];rfl
     have g7:∀w:U,(bc (ah 309 (E #[a,d,r])) 232 238 Q).run H w=aw (ag #[E #[I V 0,I V 0,I Z 0],ai K]) w:=λ_=>by kernel_rfl
     have g5:∀w:U,(bc (ah 309 (E #[a,d,r])) 232 241 Q).run H w=aw (ag #[E #[I V 0,I V 0,""],ai K]) w:=λ_=>by kernel_rfl
     have h4:∀w:U,(bc (ah 309 (E #[a,d,r])) 232 244 Q).run H w=aw (ag #[ah 309 (E #[a,d,r]),ai Q]) w:=λ_=>by kernel_rfl
     have hm:∀w:U,(method 565 309 (E #[a,d,r]) "Value").run H w=aw (360,E #[a,d,r]) w:=λ_=>by kernel_rfl
     have g8:=aFU wr a d l f;rw[C]at g8;have g2:=A g8;obtain⟨nv,W⟩:∃nv,aGZ l=nv:=⟨_,rfl⟩;rw[W]at g2;have g9:=A (λW1(g:Keeps (λ_=>False) wr W1)=>by have h1:=tN (tk:=.term a d l) L.o m g B f n.1 rfl b ((aDW _ W1 p y s rest l (c.D8 g (λ_ _=>id)) B.R9 (by have:=B.O5;omega)).mono λe w' v=>⟨T v.1,v.2.1,v.1,v.2.2⟩);rw[W]at h1;exact h1);rw[S];clear C S W g8;clear c m B o n j N f b;go_wp2_with fail;refine(g2.o).mono ?_;rintro e w2 ⟨rfl,j⟩;have HC:=A (g9.o w2 (au _ j));clear j;go_wp2_with fail;refine(HC.o).mono ?_
    rotate_left
    focus
     have g7:∀w:U,(bc (ah 271 (E #[a,d,I bw P])) 232 238 Q).run H w=aw (ag #[E #[I V 0,I V 0,I Z 0],ai K]) w:=λ_=>by kernel_rfl
     have g5:∀w:U,(bc (ah 271 (E #[a,d,I bw P])) 232 241 Q).run H w=aw (ag #[E #[I V 0,I V 0,""],ai K]) w:=λ_=>by kernel_rfl
     have h4:∀w:U,(bc (ah 271 (E #[a,d,I bw P])) 232 244 Q).run H w=aw (ag #[ah 271 (E #[a,d,I bw P]),ai Q]) w:=λ_=>by kernel_rfl
     have hm:∀w:U,(method 565 271 (E #[a,d,I bw P]) "Value").run H w=aw (357,E #[a,d,I bw P]) w:=λ_=>by kernel_rfl
     rw[show bU (.num a d P)=ah 271 (E #[a,d,I bw P])from rfl];have g2:=A (aIs wr a d P);have g9:=A (λW1(g:Keeps (λ_=>False) wr W1)=>tN (tk:=.num a d P) L.o m g B f n.1 rfl b ((aFS _ W1 p y s rest P f (c.D8 g (λ_ _=>id)) B.R9 (by have:=B.O5;omega)).mono λe w' v=>⟨T v.1,v.2.1,v.1,v.2.2⟩));clear c m B o n j N f b;go_wp2_with fail;refine(g2.o).mono ?_;rintro e w2 ⟨rfl,j⟩;have HC:=A (g9.o w2 (au _ j));clear j;go_wp2_with fail;refine(HC.o).mono ?_
    rotate_left
    focus
     obtain⟨r,C⟩:∃r:ByteArray,(⟨l.toArray⟩:ByteArray)=r:=⟨_,rfl⟩;have S:bU (.str a d l)=ah 241 (E #[a,d,r]):=by rw[<-C];rfl
     have g7:∀w:U,(bc (ah 241 (E #[a,d,r])) 232 238 Q).run H w=aw (ag #[E #[I V 0,I V 0,I Z 0],ai K]) w:=λ_=>by kernel_rfl
     have g5:∀w:U,(bc (ah 241 (E #[a,d,r])) 232 241 Q).run H w=aw (ag #[E #[a,d,r],ai Q]) w:=λ_=>by kernel_rfl
     have g:Keeps (λ_=>False) wr (wr.alloc (X #[a,d,r] 241)):=(ar _ wr).A6 _;have h:=aKy _ _ p y s rest a d l f.1 f.2 (c.D8 g (λ_ _=>id)) B;rw[C]at h;have HC:=A (tN (tk:=.str a d l) L.o m g B f n.1 rfl b h);rw[S];clear C S;clear c m B o n j N h f b g;go_wp2_with fail;refine(HC.o).mono ?_
    rotate_left
    all_goals
     rintro e w3 ⟨h,b⟩;have b:(∃e2:Nat×Nat,e=bT e2.1 e2.2/\iA w3 p/\D=ba e2)\/(∃z,e=af (ag #[])/\cH z 0/\aG (Since F w w3) w3 p z s rest/\z.D3 po rest=D):=b;rcases b with⟨e2,he,r,g9⟩|⟨z,he,W,C,g2⟩
     .have S:=A g9;have g:=A h;have HD:=A r;clear g9 h r;unfold bT at he;subst he;go_wp2_with fail;rw[S.o];exact⟨rfl,ac ⟨_,_,rfl⟩,g.o,rfl,HD.o⟩
     .subst he;cases rest with
      | nil=>
       obtain⟨h8,h4,i⟩:=o9 _ w3 p z s C;have g:=A h;have G:=A i;have g5:=A W;have S:=A C;have g7:=A g2;clear h i W C g2;go_wp2_with fail;refine(G.o).mono ?_;rintro e w4 ⟨rfl,rfl⟩;go_wp2
       go_roundw
       case rel=>exact A ⟨z,0,g.o,g5.o,[],S.o,λ_ v=>by simp at v,by simp,ac ⟨rfl,rfl,rfl,g7.o.symm⟩⟩
       case measure=>exact kO S.o
      | cons t2 S=>
       obtain⟨h8,h4,i⟩:=o8 _ w3 p z s t2 S C (by have:=h3.o;simp at this;omega);have g:=A h;have G:=A i;have g5:=A W;have g7:=A g2;obtain⟨T2,u2,g8⟩:=mL t2;rw[g8]at G;have h9:=A g8;clear h i W C g2 g8;go_wp2_with fail;refine(G.o).mono ?_;rintro e w4 ⟨rfl,i,C⟩;have h:=A i;have W:=A C;clear i C;go_wp2
       go_roundw
       case rel=>exact A ⟨z,0,g.o.O9 h.o,g5.o,S,W.o.mono (λk v=>v.trans g.o.size h.o.size) (λk v=>by exact(aF L.o (g.o.O9 h.o).size) k v),λt v=>g4.o t (eu _ v),by have:=h3.o;simp at this;omega,T ⟨t2,h7.o.M5,h9.o.symm,rfl,g4.o t2 (ev ..),g7.o⟩⟩
       case measure=>exact kP g3.o W.o
   .clear c m B o j N;have c:=A b;clear b;go_wp2
    go_end0
    rw[c.o];exact⟨T rfl,h6.o,rfl,g3.o⟩
def mN(x:Lx)(c:UInt8):(aP x c).a.length<=1:=by
 unfold aP;split
 .exact bm _
 .simp only[];split
  .exact cu _
  .split
   .exact bm _
   .split
    .unfold kX;split<;>exact bm _
    .split<;>exact bm _
def aIG(x:Lx)(c:UInt8):(x.B4 c).a.length<=2:=by
 unfold Lx.B4;split
 .exact ao (mN x c) (by decide)
 .unfold cP;simp only[];split
  .split<;>simp
  .simp
 .unfold bX;split
  .simp
  .split
   .cases x.C0 with
    | none=>simp
    | some p=>simp only[cg];have:=mN p.1 c;omega
   .simp
 .unfold bY;split
  .simp
  .split
   .simp
   .split
    .simp
    .split<;>simp
 .unfold dN;split
  .simp
  .split<;>simp
 .unfold dH;split
  .simp
  .split<;>simp
 .unfold fD;split<;>simp
 .unfold dS;split<;>simp
def aIH(x:Lx)(c:UInt8):(x.take c).2.1.length<=2:=by
 unfold Lx.take;split
 .simp
 .simp only[];split<;>exact aIG x c
def mO(F:Nat->Prop)(w:U)(p:Nat)(o:Out)(e:cw)(w':U):Prop:=
 Keeps F w w'/\match o with
 | .error (no,a)=>e=bT no a/\iA w' p
 | .ok y=>e=af (ag #[])/\aG (Since F w w') w' p y (av y.d K) []
def aKF(F:Nat->Prop)(w:U)(p:Nat)(x:Ps)(g off:Nat)(c:UInt8)(h:aG F w p x (av x.d K) [])(N:x.d.Fine)(W:w.cell? ⟨g,off,O⟩=J (I Z c.toNat)):
 ∃b,w.cell? ⟨p,2,O⟩=J (Y (J ⟨b,0,O⟩))/\ae H 82 #[Y (J ⟨b,0,O⟩),R (g,off) 1 1] w λe w'=>Keeps F w w'/\w'.cell? ⟨p,2,O⟩=J (Y (J ⟨b,0,O⟩))/\
  ((x.d.take c).2.2.1=0->e=af ak/\aG (Since F w w') w' p x (av (x.d.take c).1 K) (x.d.take c).2.1)/\
  ((x.d.take c).2.2.1≠0->e=af (cU (x.d.take c).2.2.1 (x.d.take c).2.2.2)/\∃s,aG (Since F w w') w' p x s (x.d.take c).2.1):=by
 obtain⟨i,L,G,C,b,B,a,d,f,t,P,z,D⟩:=h;have q:w.cell? ⟨p,2,O⟩=J (Y b):=by rw[aA t];rfl
 refine⟨b,q,(aCk L w b g off x.d [] c P W N (by simp)).mono ?_⟩;rintro e w' ⟨l,r,y⟩;have j:Keeps F w w':=l.mono f.d;have n:=z.D8 l (λk h e=>f.f k e h);have m:=D.A2 l (λk h e=>f.c k e h);have o:=f.S2 (w:=w) (w':=w') (i p f.g.1) z.2.1 D.lt;refine⟨j,l.B3 q f.g.2.1,λv=>?_,λv=>?_⟩
 .obtain⟨rfl,u⟩:=r v;exact⟨rfl,aF i j.size,_,G,C,b,B,a,d,o,l.B7 t f.g.2.1,u,n,m⟩
 .obtain⟨rfl,pl,S,u⟩:=y v;exact⟨rfl,.dead pl S _,aF i j.size,_,G,C,b,B,a,d,o,l.B7 t f.g.2.1,u,n,m⟩
def aKG(F:Nat->Prop)(w:U)(p:Nat)(x:Ps)(l:Lx)(toks:List Tok)(h:aG F w p x (av l K) toks)(g:l.Fine):
 ∃a,w.cell? ⟨p,2,O⟩=J (Y (J ⟨a,0,O⟩))/\ae H 83 #[Y (J ⟨a,0,O⟩)] w λe w'=>e=af (I V l.D4)/\Below w w w':=by
 obtain⟨-,o,s,r,a,q,b,f,-,k,m,-,-⟩:=h;obtain⟨-,-,j,n,c,i,d,-,-⟩:=m;refine⟨a,by rw[aA k];rfl,aDN w a l.c l.a l.e _ _ _ _ _ _ _ _ _ d g.a (ao g.c (by decide))⟩
def aCl{c:UInt8}(h:x.F9 c=bh y):y.d=x.d/\y.c=x.c:=by
 unfold Ps.F9 at h;split at h
 .cases h;exact⟨rfl,rfl⟩
 .exact⟨(kA h).1,(kA h).2.1⟩
def aBi(h:aG G w p x s toks):aG G (w.setCell ⟨p,1,O⟩ (I V ((x.c:Int)+1))) p {x with c:=x.c+1} s toks:=by
 obtain⟨f,g,r,n,o,l,a,b,d,j,m,i,q⟩:=h;have c:Keeps (λk=>k=p) w (w.setCell ⟨p,1,O⟩ (I V ((x.c:Int)+1))):=(ar (λk=>k=p) w).A3 (p:=⟨p,1,O⟩) (T rfl) _;exact⟨λk h=>bx (f k h) c.size,g,r,n,o,l,a,b,d,aB j _,m.D8 c (λk h e=>d.g.2.1 (e▸h)),i.D8 c (λk h e=>d.g.2.2.1 (e▸h)),q.A2 c (λk h e=>d.g.2.2.2 (e▸h))⟩
def vT{b:U}{pl:Nat}{q:Ps}{l:Lx}(c:∀k,F k->k<w.heap.size)(d:Keeps F w b)(e:aG (Since F w b) (b.setCell ⟨p,1,O⟩ (I V ((pl:Int)+1))) p {q with c:=pl+1} (av l K) [])(f:q.d=l):
 cI (af (ag #[]))/\mO F w p (bh {q with c:=pl+1}) (af (ag #[])) (b.setCell ⟨p,1,O⟩ (I V ((pl:Int)+1))):=by
 have a:Keeps F w (b.setCell ⟨p,1,O⟩ (I V ((pl:Int)+1))):=d.A3 (p:=⟨p,1,O⟩) (e.R4.elim T (λh=>ac h.1)) _;refine⟨T rfl,a,rfl,?_⟩
 show aG _ _ p {q with c:=pl+1} (av q.d K) []
 rw[f];exact e.mono (λk h=>h.N6 (by simp[dl])) (aF c a.size)
def aGj{d e:U}{pl:Nat}{q:Ps}{l:Lx}(c:∀k,F k->k<w.heap.size)(a:Keeps F w d)(b:Keeps (Since F w d) d e)(f:aG (Since (Since F w d) d e) (e.setCell ⟨p,1,O⟩ (I V ((pl:Int)+1))) p {q with c:=pl+1} (av l K) [])(g:q.d=l):
 cI (af (ag #[]))/\mO F w p (bh {q with c:=pl+1}) (af (ag #[])) (e.setCell ⟨p,1,O⟩ (I V ((pl:Int)+1))):=
 vT c (a.O9 b) (f.mono (λk h=>h.trans a.size b.size) (λk h=>bx (aF c (ao a.size b.size) k h) (by simp[dl]))) g
def aKH(F:Nat->Prop)(w:U)(p:Nat)(x:Ps)(g off:Nat)(c:UInt8)(a0:aG F w p x (av x.d K) [])(v:fF x)(hc:w.cell? ⟨g,off,O⟩=J (I Z c.toNat))(h6:¬F g):
 ae H 56 #[Y p,R (g,off) 1 1] w λe w'=>cI e/\mO F w p (x.take po c) e w':=by
 have h7:=a0.lt;have i6:=A h7;have i3:g<w.heap.size:=ew w _ hc;obtain⟨lb,l5,N⟩:=aKF F w p x g off c a0 v.a hc;have C:=aAU v.a c;have D:=aBI v c;have h8:=aIH x.d c;obtain⟨r,hr⟩:∃r,x.d.take c=r:=⟨_,rfl⟩;rw[hr]at N C D h8;obtain⟨d,hd⟩:∃d,Ps.D3 po {x with d:=r.1} r.2.1=d:=⟨_,rfl⟩;have a:x.take po c=sS c r d:=by rw[<-hd,<-hr];rfl
 have P:cH {x with d:=r.1} (bW x):=v.ps.P8 r.1;have h9:=A (λ(G:Nat->Prop)(w1:U)(s:LS)(h1:aG G w1 p x s r.2.1)=>aBf G w1 p {x with d:=r.1} s r.2.1 (bW x) h1 C.2 P D (by omega));rw[hd]at h9;have i4:=A N;have k4:=A h6;have i1:x.c<=16777216:=by rw[v.c];exact v.a.c
 have HC:=A hc
 by_cases n:r.2.2.1=0
 .cases d with
  | error er=>
   obtain⟨no,k5⟩:=er;rw[a];clear a P C D h8 hd hr a0 v h7 h6 i3 N hc i1;go_enter cr,ct;go_wp2_with fail;refine(i4.o).mono ?_;rintro e w1 ⟨i,-,b,f⟩;obtain⟨rfl,j⟩:=b n;have y:=A (h9.o _ w1 _ j);have o:=A i;clear b f j i n;go_wp2_with fail;refine(y.o).mono ?_;rintro e w2 ⟨-,h,he,z⟩;have i7:=A h;have HD:=A z;clear h z;unfold bT at he;subst he;go_wp2_with fail;exact⟨rfl,ac ⟨_,_,rfl⟩,o.o.O9 i7.o,rfl,HD.o⟩
  | ok q=>
   simp only[sS]at a;rw[if_neg (λa0=>a0 n)]at a;have i5:=oK hd;have i8:=(pM P C.2 D hd).1;have i9:=C.1 n;have k9:=A i5.1;have k0:q.c=x.c:=i5.2;have l6:=A i8;have l7:=A i9;have S:=A (λ(G:Nat->Prop)(w2:U)(h2:aG G w2 p q (av r.1 K) [])=>aKG G w2 p q r.1 [] h2 i9)
   by_cases hh:r.1.D4=1
   .rw[if_pos hh]at a;have j6:=A (λ(G:Nat->Prop)(L:U)(h3:aG G L p q (av r.1 K) [])=>aFR G L p q (av r.1 K) [] c h3 i8.g);rw[hh]at S;cases j0:q.F9 c with
    | error er=>
     obtain⟨no,k5⟩:=er;rw[j0]at a j6;rw[a];clear a P C D h8 hd hr a0 v h7 h6 i3 N hc i5 i8 i9 hh j0 i1;go_enter cr,ct;go_wp2_with fail;refine(i4.o).mono ?_;rintro e w1 ⟨i,-,b,f⟩;obtain⟨rfl,j⟩:=b n;have y:=A (h9.o _ w1 _ j);have o:=A i;clear b f j i n;go_wp2_with fail;refine(y.o).mono ?_;rintro e w2 ⟨i0,h,he,B⟩;subst he;have u:=o.o.O9 h;obtain⟨k6,W,l⟩:=S.o _ w2 B;have j1:=A l;have j2:=A B;have h0:=A u;have h4:=A (And.intro o.o.size h.size);clear i0 h B u l;go_wp2_with fail;refine(mH _).mono ?_;rintro e k7 ⟨rfl,rfl⟩;go_wp2_with fail;refine(j1.o).mono ?_;rintro e L ⟨rfl,m⟩;have t:Keeps F w L:=h0.o.A4 m;have h5:aG (Since F w L) L p q (av r.1 K) []:=(j2.o.D8 (au (λ_=>False) m) (λ_ _=>id)).mono (λk a0=>(a0.trans h4.o.1 h4.o.2).N6 m.size) (aF i6.o t.size);have j3:=A t;have l0:L.cell? ⟨g,off,O⟩=J (I Z c.toNat):=t.B3 HC.o k4.o;have k1:=A (j6.o _ L h5);clear m t h5 W;go_wp2_with fail;refine(k1.o).mono ?_;rintro e w4 ⟨-,j4,j7,i2⟩;have k2:=A j4;have j5:=A i2;clear j4 i2;unfold bT at j7;subst j7;go_wp2_with fail;exact⟨rfl,ac ⟨_,_,rfl⟩,j3.o.O9 k2.o,rfl,j5.o⟩
    | ok q2=>
     rw[j0]at a j6;rw[a];have i2:=aCl j0;have l1:=A (i2.1.trans i5.1);have j9:q2.c=x.c:=i2.2.trans k0;clear a P C D h8 hd hr a0 v h7 h6 i3 N hc i5 i8 i9 hh j0 i2;go_enter cr,ct;go_wp2_with fail;refine(i4.o).mono ?_;rintro e w1 ⟨i,-,b,f⟩;obtain⟨rfl,j⟩:=b n;have y:=A (h9.o _ w1 _ j);have o:=A i;clear b f j i n;go_wp2_with fail;refine(y.o).mono ?_;rintro e w2 ⟨i0,h,he,B⟩;subst he;have u:=o.o.O9 h;obtain⟨k6,W,l⟩:=S.o _ w2 B;have j1:=A l;have j2:=A B;have h0:=A u;have h4:=A (And.intro o.o.size h.size);clear i0 h B u l;go_wp2_with fail;refine(mH _).mono ?_;rintro e k7 ⟨rfl,rfl⟩;go_wp2_with fail;refine(j1.o).mono ?_;rintro e L ⟨rfl,m⟩;have t:Keeps F w L:=h0.o.A4 m;have h5:aG (Since F w L) L p q (av r.1 K) []:=(j2.o.D8 (au (λ_=>False) m) (λ_ _=>id)).mono (λk a0=>(a0.trans h4.o.1 h4.o.2).N6 m.size) (aF i6.o t.size);have j3:=A t;have l0:L.cell? ⟨g,off,O⟩=J (I Z c.toNat):=t.B3 HC.o k4.o;have k1:=A (j6.o _ L h5);clear m t h5 W;go_wp2_with fail;refine(k1.o).mono ?_;rintro e w4 ⟨k8,j4,j7,i2⟩;subst j7;have k2:=A j4;have l2:=A i2;obtain⟨-,FL,FM,FP,l3,l4,j8,k3,-,j0,-,-,-⟩:=i2;obtain⟨-,d1,d2,d3,d4,d5,d6,d7,d8,d9,df⟩:=b8 j0;have j5:=A (aBi (l2.o));rw[j9]at d1 j5;clear k8 j4 j0;go_wp2
     go_end0
     rw[j9];exact aGj i6.o j3.o k2.o j5.o l1.o
   .rw[if_neg hh]at a;rw[a];obtain⟨hv,i2⟩:∃hv,r.1.D4=hv:=⟨_,rfl⟩;rw[i2]at S hh;have j4:((hv:Int)==1)=K:=by simp;omega
    clear a P C D h8 hd hr a0 v h7 h6 i3 N hc i5 i8 i9 hh i2;go_enter cr,ct;go_wp2_with fail;refine(i4.o).mono ?_;rintro e w1 ⟨i,-,b,f⟩;obtain⟨rfl,j⟩:=b n;have y:=A (h9.o _ w1 _ j);have o:=A i;clear b f j i n;go_wp2_with fail;refine(y.o).mono ?_;rintro e w2 ⟨i0,h,he,B⟩;subst he;have u:=o.o.O9 h;obtain⟨k6,W,l⟩:=S.o _ w2 B;have j1:=A l;have j2:=A B;have h0:=A u;have h4:=A (And.intro o.o.size h.size);clear i0 h B u l;go_wp2_with fail;refine(mH _).mono ?_;rintro e k7 ⟨rfl,rfl⟩;go_wp2_with fail;refine(j1.o).mono ?_;rintro e L ⟨rfl,m⟩;have t:Keeps F w L:=h0.o.A4 m;have h5:aG (Since F w L) L p q (av r.1 K) []:=(j2.o.D8 (au (λ_=>False) m) (λ_ _=>id)).mono (λk a0=>(a0.trans h4.o.1 h4.o.2).N6 m.size) (aF i6.o t.size);have j3:=A t;clear m t W;have l:=A h5;obtain⟨-,FL,FM,FP,l3,l4,j8,k3,-,j0,-,-,-⟩:=h5;obtain⟨-,d1,d2,d3,d4,d5,d6,d7,d8,d9,df⟩:=b8 j0;have j5:=A (aBi (l.o));rw[k0]at d1 j5;clear j0;go_wp2
    go_end0
    rw[k0];exact vT i6.o j3.o j5.o k9.o
 .cases d with
  | error er=>
   obtain⟨no,k5⟩:=er;rw[a];clear a P C D h8 hd hr a0 v h7 h6 i3 N hc i1;go_enter cr,ct;go_wp2_with fail;refine(i4.o).mono ?_;rintro e w1 ⟨i,-,b,f⟩;obtain⟨rfl,s,j⟩:=f n;have y:=A (h9.o _ w1 _ j);have o:=A i;clear b f j i n;go_wp2_with fail;refine(y.o).mono ?_;rintro e w2 ⟨-,h,he,z⟩;have i7:=A h;have HD:=A z;clear h z;unfold bT at he;subst he;go_wp2_with fail;exact⟨rfl,ac ⟨_,_,rfl⟩,o.o.O9 i7.o,rfl,HD.o⟩
  | ok q=>
   simp only[sS]at a;rw[if_pos n]at a;rw[a];clear a P C D h8 hd hr a0 v h7 h6 i3 N hc i1;go_enter cr,ct;go_wp2_with fail;refine(i4.o).mono ?_;rintro e w1 ⟨i,-,b,f⟩;obtain⟨rfl,s,j⟩:=f n;have y:=A (h9.o _ w1 _ j);have o:=A i;have l:=A (λw=>zF w r.2.2.1 r.2.2.2);clear b f j i n;go_wp2_with fail;refine(y.o).mono ?_;rintro e w2 ⟨i0,h,he,a⟩;subst he;have i7:=A h;have HD:=A a.Q4;clear i0 h a;go_wp2_with fail;refine(l.o _).mono ?_;rintro e L ⟨he,m⟩;have a:=A m;clear m;unfold bT at he;subst he;go_wp2_with fail;exact⟨rfl,ac ⟨_,_,rfl⟩,(o.o.O9 i7.o).A4 a.o,rfl,HD.o.A2 (au (λ_=>False) a.o) id⟩
def wF(x:Ps)(a b:Oo):x.E4 po (a++b)=(x.E4 po a).bind λy=>y.E4 po b:=by
 unfold ez;rw[fa];rfl
def aII(h:k<l.length):x.E4 po (l.take (k+1))=(x.E4 po (l.take k)).bind λy=>y.take po l[k]:=by
 unfold ez;rw[List.take_succ_eq_append_getElem h,fa];cases fc (λp c=>Ps.take po p c) x (l.take k)with
 | error e=>rfl
 | ok y=>
  show fc _ y [l[k]]=y.take po l[k]
  simp only[List.foldlM_cons,List.foldlM_nil];cases y.take po l[k]<;>rfl
def aIJ{e:Nat×Nat}(h:x.E4 po (l.take k)=ba e):x.E4 po l=ba e:=by
 rw[<-List.take_append_drop k l,wF,h];rfl
def BytesIn(F:Nat->Prop)(w:U)(v:bk)(l:List UInt8):Prop:=∃a cap,v=R a l.length cap/\l.length<=cap/\cap<=cj/\(l= []\/∃g off,a=J ⟨g,off,O⟩/\¬F g/\∀i x,l[i]?=J x->w.cell? ⟨g,off+i,O⟩=J (I Z ((x.toNat:Nat):Int)))
def aG5(F:Nat->Prop)(w:U)(p:Nat)(x:Ps)(l:List UInt8)(k:Nat)(wr:U):Prop:=Keeps F w wr/\∃y,x.E4 po (l.take k)=bh y/\aG (Since F w wr) wr p y (av y.d K) []/\fF y
def Keeps.S1{w2:U}(h:Keeps F w.drew w2):Keeps F w w2:=⟨h.os,h.tape,h.output,h.size,h.block⟩
def aCm(F:Nat->Prop)(w:U)(p B1 B2:Nat)(x:Ps)(l:Oo)(v:bk)(C:aG F w p x (av x.d K) [])(d:fF x)(hv:BytesIn F w v l)(hl:l.length<=4294967296)
 (j:w.heap[B1]?=J (X #[v] 22 (0,0)))(r:w.heap[B2]?=J (X #[Y p] 43 (0,0)))(f:¬F B1)(h:¬F B2):
 ae H 55 #[Y B1,Y B2] w λe w'=>cI e/\mO F w p (x.E4 po l) e w':=by
 have g2:=A C.lt;obtain⟨n,b⟩:∃n,x.E4 po l=n:=⟨_,rfl⟩;rw[b];have t:=A b;clear b;have D:=bz j;have HB:=A (λ(wr:U)(hk:Keeps F w wr)=>And.intro (bz (hk.B7 j f)) (bz (hk.B7 r h)));have c:=A (show aG5 F w p x l 0 w from⟨ar _ _,x,rfl,C.mono (λk C=>T C) (aF C.lt (cu _)),d⟩);obtain⟨a,cap,rfl,g4,m,b⟩:=hv;have q:=A b
 clear C d j r f h b m;go_enter func55,ntmps55;go_wp2
 go_loopw [5] (λi wr=>∃k:Nat,k<=l.length/\i=I V k/\M (aG5 F w p x l k wr)) (λi _=>l.length-(intOf i).toNat)
 case atStart=>exact⟨0,by omega,rfl,c⟩
 case round=>
  obtain⟨k,hk,rfl,f⟩:=hrel;obtain⟨d,y,hy,b,r⟩:=f.o;clear f c;have f:=A d;have HY:=A hy;have G:=A b;obtain⟨c1,c2⟩:=HB.o wr d
  by_cases u:k<l.length
  .obtain⟨g,off,rfl,m,c⟩:=q.o.resolve_left (λe=>by subst e;simp at u);have s:=c k l[k] (List.getElem?_eq_getElem u);have g3:g<w.heap.size:=ew w _ s;have L:¬Since F w wr g:=λC=>C.elim m (λC=>absurd g3 (Nat.not_lt.2 C.1))
   have N:wr.cell? ⟨g,off+k,O⟩=J (I Z ((l[k].toNat:Nat):Int)):=d.B3 s m;have B:=aKH (Since F w wr) wr.drew p y g (off+k) l[k] (b.D8 ((ar (λ_=>False) wr).B0) (λ_ _=>id)) r N L;have h:=aII (x:=x) u;rw[hy]at h;have h:x.E4 po (l.take (k+1))=y.take po l[k]:=h;have P:=A h;have j:=λz(C:y.take po l[k]=bh z)=>r.take C
   have S:=A j;obtain⟨o,ho⟩:∃o,y.take po l[k]=o:=⟨_,rfl⟩;rw[ho]at B;have HO:=A ho;have W:=A B;clear d hy b r s m c L N B h j ho D;go_wp2_with fail;have N:V.wrap ((k:Int)+1)=(k:Int)+1:=by rw[dj];omega
   have g5:(0:Int)<=(k:Int)+1:=by omega
   have g6:(k:Int)+1<=(cap:Int):=by omega
   cases o with
   | error er=>
    obtain⟨no,B⟩:=er;obtain rfl:n=ba (no,B):=t.o.symm.trans (aIJ (P.o.trans HO.o))
    go_still_tail 8,(by kernel_rfl)
    go_wp2_with fail;refine(W.o).mono ?_;rintro e w2 ⟨-,j,s,c⟩;have m:=A j.S1;have L:=A c;clear j c;unfold bT at s;subst s;go_wp2_with fail;exact⟨rfl,ac ⟨_,_,rfl⟩,f.o.O9 m.o,rfl,L.o⟩
   | ok z=>
    go_region_with (go_at_call 56;refine(W.o).mono ?_;rintro e w2 ⟨-,j,s,c⟩;have m:=A j.S1;have B:=A c;clear j c;subst s)
    all_goals
     go_wp2
     go_roundw
     case rel=>exact⟨k+1,by omega,by go_num,A ⟨f.o.O9 m.o,z,P.o.trans HO.o,B.o.mono (λk C=>C.trans f.o.size m.o.size) (aF g2.o (f.o.O9 m.o).size),S.o z HO.o⟩⟩
     case measure=>simp[intOf];omega
  .have h:k=l.length:=by omega
   subst h;have c:=HY.o;rw[List.take_length]at c;have j:=A c;clear d hy b r c D;go_wp2
   go_end0
   obtain rfl:n=bh y:=t.o.symm.trans j.o;exact⟨T rfl,f.o,rfl,G.o⟩
def jP(w:U)(b:cw->U->Prop)(e:cw)(w':U):Prop:=
 ∃w1,(b (af (ag #[])) w1/\e=af ak/\w'=w1.setCell w ak)\/(∃no a,b (bT no a) w1/\e=af (cU no a)/\w'=w1.setCell w (cU no a))
def aEc(w:U)(o q:Nat)(u:cw->U->Prop)(c:ae H 55 #[Y o,Y q] (w.alloc (X #[ak] 26)) λe w'=>cI e/\u e w')(p:∀e w',u e w'->w'.heap[w.heap.size]?=J (X #[ak] 26 (0,0))):
 ae H 52 #[.func (.func 55) #[] #[Y o,Y q]] w (jP w u):=by
 have r:=A c;have n:=A p;clear c p
 go_enter_defers func52,ntmps52
 go_wp2_with fail;refine(r.o).mono ?_;rintro e w1 ⟨rfl|⟨no,a,m⟩,h⟩
 .have d:=n.o _ _ h;have i:=bz d;have j:=dm d;have g:(w1.setCell w ak).cell? w=J ak:=by rw[aA (aB d _)];rfl
  have k:=A h;clear h d;go_wp2_with fail;refine dp (f:=77) (args:= #[Y w]) (by simp) (by simp[go_sem]) ?_;refine(xB ⟨w.heap.size,0,O⟩ _).mono ?_;rintro e s l ⟨rfl,rfl,rfl⟩;have b:jP w u (af ak) (w1.setCell w ak):=⟨w1,T ⟨k.o,rfl,rfl⟩⟩;simp[dq,dt,du,dv,go_sem,g];exact b
 .have d:=n.o _ _ h;have i:=bz d;have j:=dm d;have g:(w1.setCell w (ah 151 (E #[no,a]))).cell? w=J (ah 151 (E #[no,a])):=by rw[aA (aB d _)];rfl
  have k:=A h;have t:=A m;clear h d;unfold bT cU at m;subst m;go_wp2_with fail;refine dp (f:=77) (args:= #[Y w]) (by simp) (by simp[go_sem]) ?_;refine(xC ⟨w.heap.size,0,O⟩ ak no a [] _ i j).mono ?_;rintro e s l ⟨rfl,rfl,rfl⟩;have b:jP w u (af (cU no a)) (w1.setCell w (cU no a)):=⟨w1,ac ⟨no,a,k.o,rfl,rfl⟩⟩;simp[dq,dt,du,dv,go_sem,g];exact b
def aAB(w:U)(p:Nat)(t:cw->U->Prop)(c:ae H 53 #[Y p] (w.alloc (X #[ak] 26)) λe w'=>cI e/\t e w')(o:∀e w',t e w'->w'.heap[w.heap.size]?=J (X #[ak] 26 (0,0))):
 ae H 52 #[.func (.func 53) #[Y p] #[]] w (jP w t):=by
 have q:=A c;have n:=A o;clear c o
 go_enter_defers func52,ntmps52
 go_wp2_with fail;refine(q.o).mono ?_;rintro e w1 ⟨rfl|⟨no,a,m⟩,h⟩
 .have d:=n.o _ _ h;have i:=bz d;have j:=dm d;have g:(w1.setCell w ak).cell? w=J ak:=by rw[aA (aB d _)];rfl
  have k:=A h;clear h d;go_wp2_with fail;refine dp (f:=77) (args:= #[Y w]) (by simp) (by simp[go_sem]) ?_;refine(xB ⟨w.heap.size,0,O⟩ _).mono ?_;rintro e r l ⟨rfl,rfl,rfl⟩;have b:jP w t (af ak) (w1.setCell w ak):=⟨w1,T ⟨k.o,rfl,rfl⟩⟩;simp[dq,dt,du,dv,go_sem,g];exact b
 .have d:=n.o _ _ h;have i:=bz d;have j:=dm d;have g:(w1.setCell w (ah 151 (E #[no,a]))).cell? w=J (ah 151 (E #[no,a])):=by rw[aA (aB d _)];rfl
  have k:=A h;have s:=A m;clear h d;unfold bT cU at m;subst m;go_wp2_with fail;refine dp (f:=77) (args:= #[Y w]) (by simp) (by simp[go_sem]) ?_;refine(xC ⟨w.heap.size,0,O⟩ ak no a [] _ i j).mono ?_;rintro e r l ⟨rfl,rfl,rfl⟩;have b:jP w t (af (cU no a)) (w1.setCell w (cU no a)):=⟨w1,ac ⟨no,a,k.o,rfl,rfl⟩⟩;simp[dq,dt,du,dv,go_sem,g];exact b
