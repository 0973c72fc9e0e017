/-
  The program, one part of its walk. Conditions: none.
-/
import Derived.Test.YtakkmiomhackiaaGreatDoorTd18
import Derived.Test.YtakkmiomhackiaaGreatDoorTd22
set_option linter.all false
set_option maxRecDepth 100000
set_option maxHeartbeats 16000000
open Go.Proofs.Tryz
open Bool renaming false->cr
open Go renaming Addr->bc,Calls->af,Value->az,World->Q,bodyPost_ret->av,cell_of_one->T,free_of_one->bh,heap_alloc_new->bz,lt_of_block->co,maxLen->bm,results->aw
open Go.BinOp renaming and->dw
open Go.Ending renaming returned->bw
open Go.IntKind renaming i64->U,u64->ai,u8->fd,wrap_i64->C,wrap_u64->ev,wrap_u8->fh
open Go.Obj renaming cells->S
open Go.Proofs renaming intOf->ae
open Go.Proofs.Tryz renaming prog->d,results159->fe,results181->fg
open Go.Proofs.YtakkmiomhackiaaGreatDoor.Fig renaming Small->ar,figs->H,figs_length_le->bp,figs_pos->ew,small_figs->ej,val->V,val_append->ee,val_figs->ek,val_lt->em
open Go.Proofs.YtakkmiomhackiaaGreatDoor.Row renaming A8->ck,E0->fa
open Go.RowKit renaming Below->E,Hid->ak
open Go.RowKit.Below renaming heap_alloc->dt,refl->ag
open Go.Value renaming agg->h,bool->bs,int->Z,slice->I,string->cg,tuple->cj
open Go.World renaming block_lt_of_cell?->ep
open Int renaming natCast_zero->et
open List renaming append_nil->cu,drop_eq_nil_of_le->cz,getD->ba,getElem?_eq_getElem->cw,length_append->du,length_drop->dv,length_singleton->fc,length_take->dh,mem_of_mem_take->dj,replicate->bu,take_succ_eq_append_getElem->dy
open Nat renaming add_zero->eo,le_mul_of_pos_right->eu,le_of_not_lt->di,le_refl->ac,le_trans->ao,lt_of_le_of_lt->dq,lt_of_lt_of_le->ct,lt_or_ge->dx,min_eq_left->eh,mod_lt->dp,mul_add->bk,mul_assoc->aj,mul_comm->cv,mul_le_mul_left->ei,pow_add->dl,pow_le_pow_right->au,pow_mul->ez,pow_pos->dm,pow_succ->bj,zero_le->bg
open Option renaming none->J,some->O
open Or renaming inl->ah,inr->bx
namespace Go.Proofs.YtakkmiomhackiaaGreatDoor
open Go.RowKit
theorem aIm{l:List Nat}{p:Nat}(a:p<l.length)(y:Nat):V (l.set p y)+10000^p*l.getD p 0=V l+10000^p*y:=by
 induction l generalizing p with
 | nil=>simp at a
 | cons x l b=>
  cases p with
  | zero=>simp[V];omega
  | succ p=>
   have:=b (p:=p) (by simpa using a);simp only[List.set_cons_succ,V,bj];have e:(x::l).getD (p+1) 0=l.getD p 0:=by simp[ba]
   rw[e];have f:10000^p*10000*l.getD p 0=10000*(10000^p*l.getD p 0):=by rw[cv (10000^p),aj]
   have c:10000^p*10000*y=10000*(10000^p*y):=by rw[cv (10000^p),aj]
   rw[f,c];omega
theorem aJT{l:List Nat}(e:ar l)(p:Nat){y:Nat}(b:y<10000):ar (l.set p y):=λx c=>by
 rcases List.mem_or_eq_of_mem_set c with a|a
 .exact e x a
 .subst a;exact b
theorem vV{l:List Nat}(b:ar l)(i:Nat):l.getD i 0<10000:=by
 rw[ba];cases a:l[i]? with
 | none=>decide
 | some x=>exact b x (List.mem_of_getElem? a)
theorem aIn{l:List Nat}{i:Nat}(a:i<l.length):l[i]?=O (l.getD i 0):=by rw[ba,cw a];rfl
theorem aIo(l:List Nat)(k:Nat):V (l.drop k)=l.getD k 0+10000*V (l.drop (k+1)):=by
 rcases dx k l.length with a|a
 .rw[List.drop_eq_getElem_cons a,V,ba,cw a];rfl
 .rw[cz a,cz (by omega),ba,List.getElem?_eq_none a];rfl
theorem aIp{l:List Nat}{j:Nat}(a:j<l.length):V (l.take (j+1))=V (l.take j)+10000^j*l.getD j 0:=by
 rw[dy a,ee,dh,eh (by omega),ba,cw a];simp[V]
theorem aGr(n:Nat):V (bu n 0)=0:=by
 induction n with
 | zero=>rfl
 | succ n a=>rw[List.replicate_succ,V,a]
theorem aDM(n:Nat):ar (bu n 0):=λx a=>by rw[(List.mem_replicate.1 a).2];decide
theorem aGs{v a P c D x y o X R:Nat}(b:a+P*o=v+P*(X%10000))(g:v+P*c+P*(x*(y+10000*D))=R)(e:X=o+x*y+c):a+P*10000*(X/10000)+P*10000*(x*D)=R:=by
 have f:P*(X%10000)+P*(10000*(X/10000))=P*o+P*(x*y)+P*c:=by rw[<-bk,Nat.mod_add_div,e,bk,bk]
 rw[bk x,bk P,show x*(10000*D)=10000*(x*D)from Nat.mul_left_comm _ _ _]at g;rw[aj P,aj P];omega
theorem aIq{v P c j k a R:Nat}(l:v+10000^(j+k)*c+P=R)(g:R<10000^(j+1+a))(b:0<c):k<=a:=by
 refine di λe=>?_
 have i:10000^(j+1+a)<=10000^(j+k):=au (by decide) (by omega);have f:10000^(j+k)*1<=10000^(j+k)*c:=ei _ b;omega
theorem jO(a a':Option bc)(k k' c c' n m:Nat)(w:Q)(a0:Fgs w (I a k c) (H n))(b:Fgs w (I a' k' c') (H m))(hl:(H n).length<=1048576)(hl':(H m).length<=1048576):
 af d 185 #[h #[I a k c],h #[I a' k' c']] w λe w'=>pI w (n*m) e w':=by
 obtain⟨va,vc,he⟩:=ck a0;injection he with z t u
 subst z t u;obtain⟨va',vc',he⟩:=ck b;injection he with z t u
 subst z t u;have HCS:=L a0.E3;have HF':=L (λK(hx:E w.heap.size w K)=>b.A5 hx);clear a0 b;have hsm:=ej n;have hsm':=ej m;have b:=ek n;have r:=ek m;generalize D:H n=l at*;generalize s:H m=f at*;have HVN:=L b;have HVM:=L r;clear D s b r;have s:E w.heap.size w (((w.alloc (S #[I a l.length c] 324)).alloc (S #[I a' f.length c'] 324)).alloc (S #[I J 0 0] 324)):=(((ag _ _).alloc (ac _) _).alloc (by simp) _).alloc (by simp;omega) _;have b:E (((w.alloc (S #[I a l.length c] 324)).alloc (S #[I a' f.length c'] 324)).alloc (S #[I J 0 0] 324)).heap.size (((w.alloc (S #[I a l.length c] 324)).alloc (S #[I a' f.length c'] 324)).alloc (S #[I J 0 0] 324)) (((w.alloc (S #[I a l.length c] 324)).alloc (S #[I a' f.length c'] 324)).alloc (S #[I J 0 0] 324)):=ag _ _;obtain⟨g1,r,D,_,_⟩:=sC b;have G1:=L g1;have G2:=L r;have G3:=L D;clear g1 r D b;obtain⟨N,G⟩:∃N,l.length+f.length+1=N:=⟨_,rfl⟩;have D:U.wrap ((l.length:Int)+(f.length:Int))=(l.length:Int)+(f.length:Int):=by rw[C];omega
 have F:U.wrap ((l.length:Int)+(f.length:Int)+1)=(N:Int):=by rw[C];omega
 go_enter func185,ntmps185
 go_wp2_with (at_make;refine qF (B:=w.heap.size+3) (enc:=encI) 0 aKC rfl _ _ rfl _ _ _ _ N N rfl rfl ?_ ?_ ?_ ?_ ?_ ?_ ?_)
 .first|rfl|omega
 .first|rfl|omega
 .omega
 .omega
 .unfold bm;omega
 .simp
 intro w1 r b;have hsz1:w.heap.size+3<=w1.heap.size:=by have:=b.size;simp at this;omega
 have hbw:E w.heap.size w w1:=s.trans (b.mono (by omega));have G1':=L ((b.block _ (by omega)).trans G1.o);have G2':=L ((b.block _ (by omega)).trans G2.o);have G3':=L ((b.block _ (by omega)).trans G3.o);have HN:=L G;have HR0:=L r;clear s b r G D F;obtain⟨A,b⟩:∃A,w.heap.size+1+1+1=A:=⟨_,rfl⟩;have hA3:w.heap.size+3<=A:=by omega
 simp only[b]at HR0⊢;clear b;go_wp2_with fail
 go_loopw [6] (λi wr=>∃(j:Nat)(s:List Nat),j<=l.length/\i=Z U j/\Row (w.heap.size+3) 3 encI wr (I (O ⟨A,0,J⟩) N N) s/\M (s.length=N)/\ar s/\M (V s=V (l.take j)*m)/\E (w.heap.size+3) w1 wr) (λi _=>l.length-(ae i).toNat)
 case atStart=>exact⟨0,bu N 0,bg _,rfl,HR0.o.I3 hA3,L (by simp),aDM N,L (by rw[aGr];simp[V]),ag _ _⟩
 case round=>
  obtain⟨j,s,hj,rfl,F,HLEN,hss,HV,r⟩:=hrel;obtain⟨wo,rfl⟩:∃wo:Q,wo=wr:=⟨_,rfl⟩;have hc1:=T ((r.block _ (by omega)).trans G1'.o)
  by_cases hlt:j<l.length
  .rcases HCS.o with⟨_,hn⟩|⟨g,cap,he,hg,_,_,b⟩
   .subst hn;simp at hlt
   .injection he with z t u
    have hx:=vV hsm j;have D:∀K,E (w.heap.size+3) w1 K->K.cell? ⟨g,j,J⟩=O (Z U (l.getD j 0:Nat)):=λK hb=>(hb.cell (by simp;omega)).trans ((hbw.cell hg).trans (b j hlt))
    subst z;clear b t u;have u:=aIp hlt
    have G:V (l.take (j+1))*m<10000^(j+1+f.length):=by
     have z:=em (l:=l.take (j+1)) (λy hy=>hsm y (dj hy));have t:=em hsm';rw[HVM.o]at t;rw[dh,eh (by omega)]at z;rw[dl];exact Nat.mul_lt_mul_of_lt_of_le z (Nat.le_of_lt t) (dm (by decide))
    have b:V s+10000^(j+0)*0+10000^(j+0)*(l.getD j 0*V (f.drop 0))=V (l.take (j+1))*m:=by
     rw[u,HV.o,List.drop_zero,HVM.o,Nat.mul_zero,eo,eo,Nat.add_mul,aj]
    generalize t:V (l.take (j+1))*m=R at*;have HRR:=L t;clear t;generalize l.getD j 0=x at*;have HR:=L G;have HS0:=L b;have HGW:=L D;clear u G b D;go_wp2_with fail
    go_loopw [8,7] (λi mo wr=>∃(k P:Nat)(G:List Nat),k<=f.length+1/\i=Z U k/\mo=Z U P/\P<10000/\Row (w.heap.size+3) 3 encI wr (I (O ⟨A,0,J⟩) N N) G/\M (G.length=N)/\ar G/\
     M (V G+10000^(j+k)*P+10000^(j+k)*(x*V (f.drop k))=R)/\E (w.heap.size+3) w1 wr) (λi _ _=>f.length+1-(ae i).toNat)
    case atStart=>exact⟨0,0,s,bg _,rfl,rfl,by decide,F,HLEN,hss,HS0,r⟩
    case round=>
     obtain⟨k,P,G,hk,rfl,rfl,hm0,t,u,W,HV2,b⟩:=hrel;clear F r hc1;have hszr:w.heap.size+3<=wr.heap.size:=ao hsz1 b.size;have kc1:=T ((b.block _ (by omega)).trans G1'.o);have kc2:=T ((b.block _ (by omega)).trans G2'.o)
     by_cases Y:k<f.length\/0<P
     .have hkl:k<=f.length:=by
       rcases Y with z|z
       .omega
       .exact aIq HV2.o HR.o z
      obtain⟨q,hq⟩:∃q,j+k=q:=⟨_,rfl⟩;have HV3:=HV2;rw[hq]at HV3;have hNb:q<N:=by have:=HN.o;omega
      have hpl:q<G.length:=by rw[u.o];exact hNb
      have hco:wr.cell? ⟨A,q,J⟩=O (Z U (G.getD (q) 0:Nat)):=t.B5 (aIn hpl);have hgx:=HGW.o _ b;have z:=λy=>aIm (l:=G) hpl y
      have hy:=vV hsm' k;have ho:=vV W (q);have hA4:A<wr.heap.size:=ep _ _ hco;have hg4:g<wr.heap.size:=ep _ _ hgx;have D:∀K,E wr.heap.size wr K->af d 201 #[h #[I a' f.length c'],Z U k] K λe w'=>e=bw (Z U (f.getD k 0:Nat))/\E K.heap.size K w':=λK hb=>aGq _ _ _ _ _ _ (HF'.o _ (hbw.trans ((b.mono (by omega)).trans (hb.mono (by omega)))))
      have hdr:=aIo f k;generalize f.getD k 0=y at*;generalize G.getD (q) 0=o at*;have hxy:x*y<=9999*9999:=Nat.mul_le_mul (by omega) (by omega);obtain⟨p,hp⟩:∃p,x*y=p:=⟨_,rfl⟩;have hp':(x:Int)*(y:Int)=(p:Int):=by rw[<-hp];exact(Int.natCast_mul x y).symm
      have HSET:=L z;have HHF:=L D;have HP:=L hp;have HDR:=L hdr;have w1e:U.wrap ((x:Int)*(y:Int))=(p:Int):=by rw[C,hp'];omega
      obtain⟨X,hX⟩:∃X,o+p+P=X:=⟨_,rfl⟩;have w2e:U.wrap ((o:Int)+(p:Int))=(o:Int)+(p:Int):=by rw[C];omega
      have w3e:U.wrap ((o:Int)+(p:Int)+(P:Int))=(X:Int):=by rw[C];omega
      have hjk:U.wrap ((j:Int)+(k:Int))=(q:Int):=by rw[C];omega
      have hNi:(q:Int)<(N:Int):=by omega
      have hXb:X<=99999999:=by omega
      have HX:=L hX;have HQ:=L hq;have hgo2:(k:Int)<(f.length:Int)\/(¬(k:Int)<(f.length:Int)/\(0:Int)<(P:Int)):=by omega
      clear z D hp hp' hdr Y hxy hX hq;rcases hgo2 with q1|⟨q1,q2⟩
      all_goals
       go_wp2_with fail
       go_region_held3 (λw'=>w'.cell? ⟨w.heap.size,0,J⟩=O (I (O ⟨g,0,J⟩) l.length c)/\w'.cell? ⟨w.heap.size+1,0,J⟩=O (I a' f.length c')/\w'.cell? ⟨g,j,J⟩=O (Z U (x:Int))/\w'.cell? ⟨A,q,J⟩=O (Z U (o:Int))) (first|exact⟨hx1,hx2,hx3,D⟩|exact⟨kc1,kc2,hgx,hco⟩|go_keep)
        (first|(go_at_call 201;(with_reducible refine(HHF.o _ ((ag _ wr).drew)).mono ?_);rintro e K ⟨rfl,z⟩;have hx1:=(z.cell (p:=⟨w.heap.size,0,J⟩) (by simp;omega)).trans kc1;have hx2:=(z.cell (p:=⟨w.heap.size+1,0,J⟩) (by simp;omega)).trans kc2;have hx3:=(z.cell (p:=⟨g,j,J⟩) (by simpa using hg4)).trans hgx;have D:=(z.cell (p:=⟨A,q,J⟩) (by simpa using hA4)).trans hco))
       all_goals
        have hbel3:=b.drew.trans ((z.mono (show w.heap.size+3<=wr.drew.heap.size from hszr)));have D:=(t.A9).A5 z;have hfree3:=D.K6 (q);have e1:Int.tmod (X:Int) 10000=((X%10000:Nat):Int):=rfl;have e2:Int.tdiv (X:Int) 10000=((X/10000:Nat):Int):=rfl;have hv:V G+10000^q*P+10000^q*(x*(y+10000*V (f.drop (k+1))))=R:=by rw[<-HDR.o];exact HV3.o
        have hx':X=o+x*y+P:=by rw[HP.o];exact HX.o.symm
        have HST:=L (aGs (HSET.o (X%10000)) hv hx');have hst:=D.M3 (i:=q) (by rw[u.o];exact hNb) (X%10000);have hm3:X/10000<10000:=by omega
        have hm4:X%10000<10000:=dp _ (by decide);have HROW:=L hst;clear hv hx' z hx1 hx2 hx3 t D hst b kc1 kc2 hgx hco w1e w2e w3e;go_wp2_with fail;have z:(X:Int)/10000=((X/10000:Nat):Int):=rfl;have D:(X:Int)%10000=((X%10000:Nat):Int):=rfl;rw[z,D];refine⟨⟨k+1,X/10000,G.set q (X%10000),by omega,by go_num,rfl,hm3,HROW.o,L (by rw[List.length_set];exact u.o),aJT W _ hm4,?_,hbel3.setCell (by simpa using hA3) _⟩,by simp[ae];omega⟩;have e5:10000^(j+(k+1))=10000^q*10000:=by rw[<-Nat.add_assoc,HQ.o,bj]
        rw[e5];exact L HST.o
     .have z:f.length<=k:=di λa0=>Y (ah a0)
      obtain rfl:P=0:=by have:=λa0=>Y (bx a0);omega
      have q1:¬(k:Int)<(f.length:Int):=by omega
      have hv:V G=R:=by
       have:=HV2.o;rw[cz z]at this
       simpa[V]using this
      have D:=L hv;clear Y z hv HV2;simp only[et];go_wp2_with fail;exact⟨⟨j+1,G,by omega,by go_num,t,u,W,L (D.o.trans HRR.o.symm),b⟩,by simp[ae];omega⟩
  .have t:j=l.length:=by omega
   have b:V s=n*m:=by rw[HV.o,t,List.take_length,HVN.o]
   have HF:=L b;have u:E w.heap.size w wo:=hbw.trans (r.mono (by omega));have P:=(r.block _ (by omega)).trans G3'.o;clear b t;go_wp2_with fail;refine(aBX _ s _ hss (F.I3 (bg _))).mono ?_;rintro e w3 ⟨a3,W,Y,rfl,t,b⟩;rw[HF.o]at t;have z:=keep P b;have D:=T z;have hf5:=bh z;have G:=chain u b;have HM:=L t;clear t P r F hc1;go_wp2;exact av (v:=h #[I a3 W Y]) (by simp[aw,results185,go_sem,D]) rfl ⟨a3,W,Y,rfl,HM.o.D6 z (by decide) _ _,G.setCell (by simp;omega) _⟩
theorem aFs{k:Nat}(b:k<=4096):(H (2^k)).length<=1048576:=by
 have a:2^k<10000^400:=dq (au (by decide) b) (by decide+kernel);have:=bp a;omega
theorem sN{n m:Nat}(a:n<=m):(H n).length<=(H m).length:=bp (dq a (Fig.lt_of_figs_length (ac _)))
theorem aJU(X:Nat)(w:Q)(hK:X<=4096):af d 186 #[Z U X] w λe w'=>pI w (2^X) e w':=by
 have f:=aFs hK;obtain⟨a0,g⟩:∃a0,2^X=a0:=⟨_,rfl⟩;rw[g]at f;have HT:=L g;have HL:=L f;rw[g];clear g f;have f:∀W:Q,af d 183 #[Z ai 8192] W λe w'=>pI W 8192 e w':=λW=>rC 8192 W (by decide)
 have HOF:=L f;clear f;go_enter func186,ntmps186;go_wp2_with fail;refine(rC 1 _ (by decide)).mono ?_;rintro e w1 ⟨a,k,c,rfl,l,m⟩;obtain⟨g,hbw,hsz⟩:=after1 m;have n:(w1.alloc (S #[I a k c] 324)).heap[w.heap.size]?=O (S #[I J 0 0] 324 (0,0)):=(dt w1 _ _ (by omega)).trans g;have q:(w1.alloc (S #[I a k c] 324)).heap[w1.heap.size]?=O (S #[I a k c] 324 (0,0)):=bz w1 _;have f:=hbw.alloc (by omega) (S #[I a k c] 324);have i:=l.A4 (S #[I a k c] 324);have Y:w.heap.size≠w1.heap.size:=by omega
 have s:=L n;have j:=L q;have t:=L i;clear l m g n q i;go_wp2_with fail;obtain⟨B,hB⟩:∃B,w1.heap.size=B:=⟨_,rfl⟩;rw[hB]at j Y⊢
 go_loopw [0] (λv wr=>∃(K i:Nat)(a:Option bc)(k c:Nat),v=Z U K/\K<=4096/\M (i*2^K=a0)/\wr.heap[B]?=O (S #[I a k c] 324 (0,0))/\wr.heap[w.heap.size]?=O (S #[I J 0 0] 324 (0,0))/\
  Fgs wr (I a k c) (H i)/\E w.heap.size w wr) (λv _=>(ae v).toNat)
 case atStart=>exact⟨X,1,a,k,c,rfl,hK,L (by rw[Nat.one_mul];exact HT.o),j.o,s.o,t.o,f⟩
 case round=>
  clear s j t f;obtain⟨K,i,a,k,c,rfl,hK4,HA,f,g,s,t⟩:=hrel;have u:=T f;have x:B<wr.heap.size:=co f;have y:(H i).length<=1048576:=ao (sN (by rw[<-HA.o];exact eu _ (Nat.two_pow_pos _))) HL.o;have A:=L f;have HG4:=L g;clear f g
  by_cases h13:13<=K
  .have q1:(13:Int)<=(K:Int):=by omega
   have e1:U.wrap ((K:Int)-13)=((K-13:Nat):Int):=by rw[C];omega
   go_wp2_with fail
   go_region_with
    (first|(go_at_call 183;(with_reducible refine(HOF.o _).mono ?_);rintro r wx ⟨ax,kx,cx,rfl,l,f⟩;have D:=(f.cell (p:=⟨B,0,J⟩) (by simpa using x)).trans u)|(go_at_call 185;(with_reducible refine(jO a ax k kx c cx i 8192 _ ((s.A9).A5 f) l y (ao (bp (k:=1) (by decide)) (by decide))).mono ?_);rintro r wy ⟨m,n,q,rfl,j,g⟩;have F:=bh (keep (keep (w1:=wr.drew) A.o f) g);have G:=T (keep (keep (w1:=wr.drew) A.o f) g)))
   all_goals
    have y6:=keep (keep (w1:=wr.drew) A.o f) g;have z:=keep (keep (w1:=wr.drew) HG4.o f) g;have N:=(chain (chain t.drew f) g).setCell (p:=⟨B,0,J⟩) (by simp;omega) (I m n q);have R:=L (j.D6 y6 (by decide) 0 (I m n q));have Y6:=L (aB (o:=0) y6 (I m n q));have Y4:=L ((aE (w:=wy) (o:=0) (k:=w.heap.size) (b:=B) (I m n q) Y).trans z);have HA2:=L (show i*8192*2^(K-13)=a0 by rw[<-HA.o,aj,show 8192=2^13 from rfl,<-dl,show 13+(K-13)=K by omega]);clear y6 z f g l j D G F t s u;go_wp2_with fail;exact⟨⟨K-13,i*8192,m,n,q,by go_num,by omega,HA2,Y6.o,Y4.o,R.o,N⟩,by simp[ae];omega⟩
  .have q1:¬(13:Int)<=(K:Int):=by omega
   obtain⟨P,hP⟩:∃P,2^K=P:=⟨_,rfl⟩;have hPb:P<8192:=by rw[<-hP];exact dq (au (by decide) (show K<=12 by omega)) (by decide)
   have hPi:(2:Int)^K=(P:Int):=by rw[<-hP];exact(Int.natCast_pow 2 K).symm
   have hPw:ai.wrap ((2:Int)^K)=(P:Int):=by rw[hPi,ev];omega
   have HOP:=L (λW:Q=>rC P W (by omega));have HPT:=L (show i*P=a0 by rw[<-hP];exact HA.o);have hpl:(H P).length<=1048576:=ao (bp (k:=1) (by omega)) (by decide);clear hP hPi;go_wp2_with fail
   go_region_with
    (first|(go_at_call 183;(with_reducible refine(HOP.o _).mono ?_);rintro r wx ⟨ax,kx,cx,rfl,l,f⟩;have D:=(f.cell (p:=⟨B,0,J⟩) (by simpa using x)).trans u)|(go_at_call 185;(with_reducible refine(jO a ax k kx c cx i P _ ((s.A9).A5 f) l y hpl).mono ?_);rintro r wy ⟨m,n,q,rfl,j,g⟩;have z:=keep (keep (w1:=wr.drew) HG4.o f) g;have F:=bh z;have G:=T z))
   all_goals
    rw[HPT.o]at j;have N:=(chain (chain t.drew f) g).setCell (p:=⟨w.heap.size,0,J⟩) (ac _) (I m n q);have R:=L (j.D6 z (by decide) 0 (I m n q));have z4:=T (aB (o:=0) z (I m n q));clear f g l j D G F t s u z;go_wp2;exact av (v:=h #[I m n q]) (by simp[aw,results186,go_sem,z4]) rfl ⟨m,n,q,rfl,R.o,N⟩
theorem iY{Y:Type}{B e t bytes:Nat}{enc:Y->az}{w:Q}{v:az}{l:List Y}{D:Array Oper}{k:List Oper}{o:Oper}{a:Act}{a0:Exit->Act->Q->Prop}(a1:Elem t e bytes)(G:o.guard=J)(s x:Operand)
 (ho:o.op=.call {callee:=.builtin .append,args:= #[s,x],argTypes:= #[t,t]})(hs:a.eval s=v)(F:Row B e enc w v l)(K:bc)(m c:Nat)(f:List Y)(hx:a.eval x=I (O K) m c)(n:f.length=m)(hm0:1<=m)
 (p:∀j y,f[j]?=O y->w.cell? (K.add j)=O (enc y))(h1:∀y,(enc y).oneCell'=true)(hb:(l.length+m)*bytes<=140737488355328)(hm:l.length+m<=bm)(q:B<=w.heap.size)
 (a2:∀b cap w',Row B e enc w' (I (O ⟨b,0,J⟩) (l.length+m) cap) (l++f)->w.grownBy w' v.ownBlock->wpList d D a0 k (a.put o.dst (I (O ⟨b,0,J⟩) (l.length+m) cap)) w'):
 wpList d D a0 (o::k) a w:=by
 obtain⟨ht,i,z,hi,hz,N,P,R⟩:=a1;refine wpList_append_own w G s x t ho B e i z 1 bytes ht hi hz N P R (by decide) v l.length (l.map enc) hs F K m c (f.map enc) hx (by simp[n]) ?_ ?_ hm hb q ?_
 .intro j u r;rw[List.getElem?_map]at r;cases A:f[j]? with
  | none=>rw[A]at r;cases r
  | some y=>rw[A]at r;simp at r;subst r;exact p j y A
 .intro u r;obtain⟨y,_,rfl⟩:=List.mem_map.1 r;exact h1 y
 .intro v' w' r hg X;rcases r.2 with⟨_,hn⟩|⟨g,cap,W,rfl,A⟩
  .omega
  .refine a2 g cap w' ?_ hg;unfold Row;rw[du,List.map_append,n];exact⟨by simp[n],bx ⟨g,cap,W,rfl,by simpa using A⟩⟩
theorem aFt{X:Nat}(e:X≠0):∀c:Nat,H (X*10000^c)=bu c 0++H X
 | 0=>by simp
 | c+1=>by
  have b:0<10000^c:=dm (by decide);have a:X*10000^(c+1)≠0:=Nat.mul_ne_zero e (by rw[bj];omega);rw[ew a,bj,<-aj,Nat.mul_mod_left,Nat.mul_div_cancel _ (by decide),aFt e c];rfl
theorem vW(a:Option bc)(k c X n:Nat)(w:Q)(A:Fgs w (I a k c) (H X))(u:X≠0)(hn:n<=8192)(l:(H (X*10^n)).length<=1048576):
 af d 184 #[h #[I a k c],Z U n] w λe w'=>pI w (X*10^n) e w':=by
 obtain⟨va,vc,G⟩:=ck A;injection G with h1 z x
 subst h1 z x;obtain⟨K,R,s,hR⟩:∃K R,n=4*K+R/\R<4:=⟨n/4,n%4,by omega,by omega⟩;have t:X*10^n=X*10000^K*10^R:=by rw[s,dl,ez,aj]
 have hlx:(H X).length<=1048576:=ao (sN (eu _ (dm (by decide)))) l;have q:=aFt u K;have N:(H X).length≠0:=by rw[ew u];simp
 rw[t]at l⊢;generalize X*10000^K=Y at*
 obtain⟨g,cap,G,hg,_,_,m⟩:∃g cap,I a (H X).length c=I (O ⟨g,0,J⟩) (H X).length cap/\g<w.heap.size/\(H X).length<=cap/\cap<=bm/\∀i,i<(H X).length->w.cell? ⟨g,i,J⟩=O (Z U ((H X).getD i 0:Nat)):=by
  rcases A.E3 with⟨_,G⟩|B
  .rw[G]at N;exact absurd rfl N
  .exact B
 injection G with h1 z x
 subst h1;clear z x t A;generalize H X=F at*;have A:=L m;have HUP:=L q;have P:=L l;clear m q l u;have e1:(n:Int)/4=(K:Int):=by omega
 have e2:(n:Int)%4=(R:Int):=by omega
 clear s;have hB0:E (w.heap.size+2) ((w.alloc (S #[I (O ⟨g,0,J⟩) F.length c] 324)).alloc (S #[I J 0 0] 324)) ((w.alloc (S #[I (O ⟨g,0,J⟩) F.length c] 324)).alloc (S #[I J 0 0] 324)):=ag _ _;have l:∀W:Q,af d 183 #[Z ai 10] W λe w'=>pI W 10 e w':=λW=>rC 10 W (by decide)
 have HOF:=L l;clear l;go_enter func184,ntmps184;go_wp2_with fail;obtain⟨w1,l⟩:∃w1,((w.alloc (S #[I (O ⟨g,0,J⟩) F.length c] 324)).alloc (S #[I J 0 0] 324))=w1:=⟨_,rfl⟩;have hsz1:w1.heap.size=w.heap.size+2:=by rw[<-l];simp
 have hb1:E w.heap.size w w1:=by rw[<-l];exact((ag _ _).alloc (ac _) _).alloc (by simp) _
 have B:w1.heap[w.heap.size]?=O (S #[I (O ⟨g,0,J⟩) F.length c] 324 (0,0)):=by rw[<-l];exact(dt _ _ _ (by simp)).trans (bz w _)
 have g4:w1.heap[w.heap.size+1]?=O (S #[I J 0 0] 324 (0,0)):=by rw[<-l];simpa using bz (w.alloc (S #[I (O ⟨g,0,J⟩) F.length c] 324)) (S #[I J 0 0] 324)
 rw[l]at hB0⊢;have G2:=L B;have G4:=L g4;clear l B g4
 go_loopw [6,5] (λi f wr=>∃j:Nat,i=Z U j/\j<=K/\Row (w.heap.size+2) 3 encI wr f (bu j 0)/\E (w.heap.size+2) w1 wr) (λi _ _=>K-(ae i).toNat)
 case atStart=>exact⟨0,rfl,bg _,fa _ _ _ _,hB0⟩
 case round=>
  obtain⟨j,rfl,hj,s,t⟩:=hrel;have hsz:w.heap.size+2<=wr.heap.size:=by rw[<-hsz1];exact t.size
  by_cases D:j<K
  .have q1:(j:Int)<(K:Int):=by omega
   go_wp2_with (at_builtin;refine cQ aBW rfl _ _ rfl rfl (s.A4 _) ⟨wr.heap.size,0,J⟩ 1 0 rfl ?_ rfl ?_ ?_ ?_ ?_)
   .simp
   .simp;omega
   .simp;unfold bm;omega
   .simp;omega
   intro b cap w3 l m;rw[<-List.replicate_succ']at l;have u:=(t.alloc hsz (S #[Z U 0] 3)).grown m (by simp;omega) (λk hk=>(s.lt k hk).1);have q:=L l;clear l m s;go_wp2
   go_roundw
   case rel=>exact⟨j+1,by go_num,by omega,q.o,u⟩
   case measure=>simp[ae];omega
  .obtain rfl:j=K:=by omega
   have q1:¬(j:Int)<(j:Int):=by omega
   have x:=T ((t.block _ (by omega)).trans G2.o)
   have hgl:∀(i:Nat)(y:Nat),F[i]?=O y->wr.cell? ((⟨g,0,J⟩:bc).add i)=O (encI y):=by
    intro i y q;have D:=(List.getElem?_eq_some_iff.1 q).1;rw[Addr.add_lit,Nat.zero_add];refine(t.cell (by simp;omega)).trans ((hb1.cell hg).trans ?_);rw[A.o i D,ba,q];rfl
   go_wp2_with (at_builtin;refine iY aBW rfl _ _ rfl rfl s ⟨g,0,J⟩ F.length c F rfl rfl ?_ hgl ?_ ?_ ?_ ?_ ?_)
   .omega
   .intro y;rfl
   ·(try simp);omega
   ·(try simp);unfold bm;omega
   intro b cap w3 l m;rw[<-HUP.o]at l;have u:=t.grown m hsz (λk hk=>(s.lt k hk).1);have z:=(u.block _ (by omega)).trans G2.o;have h4:=(u.block _ (by omega)).trans G4.o;have x:=T z;have hf2:=bh z;have hf3:=l.D6 z (by decide) 0 (I (O ⟨b,0,J⟩) (j+F.length) cap);have q:=(hb1.trans (u.mono (by omega))).setCell (p:=⟨w.heap.size,0,J⟩) (ac _) (I (O ⟨b,0,J⟩) (j+F.length) cap);have H2:=L (aB (o:=0) z (I (O ⟨b,0,J⟩) (j+F.length) cap));have H4:=L ((aE (o:=0) (I (O ⟨b,0,J⟩) (j+F.length) cap) (show w.heap.size+1≠w.heap.size by omega)).trans h4);have HF:=L (hf3.I3 (bg _));clear l m s hgl z h4 hf3 t u;go_wp2_with fail;generalize w3.setCell ⟨w.heap.size,0,J⟩ (I (O ⟨b,0,J⟩) (j+F.length) cap)=w4 at*
   go_loopw [7] (λv wr=>∃(i:Nat)(a:Option bc)(k c:Nat),v=Z U i/\i<=R/\wr.heap[w.heap.size]?=O (S #[I a k c] 324 (0,0))/\wr.heap[w.heap.size+1]?=O (S #[I J 0 0] 324 (0,0))/\
    Fgs wr (I a k c) (H (Y*10^i))/\E w.heap.size w wr) (λv _=>R-(ae v).toNat)
   case atStart=>exact⟨0,_,_,_,rfl,bg _,H2.o,H4.o,by rw[Nat.pow_zero,Nat.mul_one];exact HF.o,q⟩
   case round=>
    clear H2 H4 HF q x hf2;obtain⟨i,a,k,c,rfl,hi,B,g4,s,t⟩:=hrel;have x:=T B;have hlt2:w.heap.size<wr.heap.size:=co B;have hacc:(H (Y*10^i)).length<=1048576:=ao (sN (ei _ (au (by decide) hi))) P.o;have u:=L B;have m:=L g4;clear B g4
    by_cases D:i<R
    .have q1:(i:Int)<(R:Int):=by omega
     go_wp2_with fail
     go_region_with
      (first|(go_at_call 183;(with_reducible refine(HOF.o _).mono ?_);rintro r wx ⟨ax,kx,cx,rfl,B,q⟩;have hx1:=(q.cell (p:=⟨w.heap.size,0,J⟩) (by simpa using hlt2)).trans x)|(go_at_call 185;(with_reducible refine(jO a ax k kx c cx (Y*10^i) 10 _ ((s.A9).A5 q) B hacc (ao (bp (k:=1) (by decide)) (by decide))).mono ?_);rintro r wy ⟨am,km,cm,rfl,z,l⟩;have hyf:=bh (keep (keep (w1:=wr.drew) u.o q) l);have hy1:=T (keep (keep (w1:=wr.drew) u.o q) l)))
     all_goals
      have y2:=keep (keep (w1:=wr.drew) u.o q) l;have y4:=keep (keep (w1:=wr.drew) m.o q) l;have ybl:=(chain (chain t.drew q) l).setCell (p:=⟨w.heap.size,0,J⟩) (ac _) (I am km cm);rw[aj,<-bj]at z;have HWM:=L (z.D6 y2 (by decide) 0 (I am km cm));have Y2:=L (aB (o:=0) y2 (I am km cm));have Y4:=L ((aE (o:=0) (I am km cm) (show w.heap.size+1≠w.heap.size by omega)).trans y4);clear y2 y4 q l B z hx1 hy1 hyf t s x;go_wp2_with fail;exact⟨⟨i+1,am,km,cm,by go_num,by omega,Y2.o,Y4.o,HWM.o,ybl⟩,by simp[ae];omega⟩
    .obtain rfl:i=R:=by omega
     have q1:¬(i:Int)<(i:Int):=by omega
     have q:=T m.o;have x:=bh m.o;have z:=T (aB (o:=0) m.o (I a k c));have l:=L (s.D6 m.o (by decide) 0 (I a k c));have B:=L (t.setCell (p:=⟨w.heap.size+1,0,J⟩) (Nat.le_succ _) (I a k c));clear s t;go_wp2;exact av (v:=h #[I a k c]) (by simp[aw,results184,go_sem,z]) rfl ⟨a,k,c,rfl,l.o,B.o⟩
theorem aD2(a:Option bc)(k c:Nat)(l:List Nat)(w:Q)(o:Fgs w (I a k c) l)(m:l.length<617):af d 200 #[h #[I a k c]] w λe w'=>e=bw (bs cr)/\E w.heap.size w w':=by
 obtain⟨n,j,b⟩:=ck o;injection b with g f i
 subst g f i;have q:(l.length:Int)<617:=by omega
 clear o;go_enter func200,ntmps200;go_wp2_with fail;go_ret;exact⟨rfl,(ag _ _).alloc (ac _) _⟩
theorem aGJ{l:List UInt8}{F i:Nat}(a:F<=i)(hi:i<l.length):(l.drop F).take (i+1-F)=(l.drop F).take (i-F)++ [l[i]]:=by
 rw[show i+1-F=(i-F)+1 by omega,dy (by rw[dv];omega),List.getElem_drop];congr 3;omega
theorem aFy{l:List UInt8}(c:∀x∈l,48<=x.toNat/\x.toNat<=57)(F n:Nat):bM ((l.drop F).take n)<10^n:=by
 have a:=j8 (l:=(l.drop F).take n) (λx b=>(c x (List.mem_of_mem_drop (dj b))).2);exact ct a (au (by decide) (by rw[dh];omega))
theorem aD3(s:ByteArray)(w:Q)(j:∀x∈s.data.toList,48<=x.toNat/\x.toNat<=57)(hs:s.size<=2000)(hp:0<s.size)(q0:s[0].toNat≠48):
 af d 182 #[cg s] w λe w'=>∃a k c,e=bw (cj #[h #[I a k c],bs true])/\Fgs w' (I a k c) (H (bM s.data.toList))/\E w.heap.size w w':=by
 have g:(H (bM s.data.toList)).length<=500:=by
  have n:=j8 (l:=s.data.toList) (λx Y=>(j x Y).2);obtain⟨q,m⟩:∃q,q=500:=⟨_,rfl⟩;rw[<-m];refine bp (ct n ?_);rw[show 10000=10^4 from rfl,<-ez];exact au (by decide) (by rw[m];simpa using hs)
 obtain⟨D,m⟩:∃D,bM s.data.toList=D:=⟨_,rfl⟩;rw[m]at g⊢;have HL:=L g;have HD:=L m;have HS:=L j;clear g m j;go_enter func182,ntmps182;go_wp2_with fail;refine wp_loop_rounds 1 ?_;rw[rounds_succ]
 have q2:¬((s[0].toNat:Nat):Int)=48:=by omega
 have q3:(((s[0].toNat:Nat):Int)==48)=cr:=by simpa using q2
 have q4:¬(2467:Int)<(s.size:Int):=by omega
 go_wp2_with fail
 go_loopw [0,4] (λv f wr=>∃(t:ByteArray)(r:List Nat),v=cg t/\M (∀x∈t.data.toList,48<=x.toNat/\x.toNat<=57)/\r.length+t.size<=2000/\Row (w.heap.size+1) 3 encI wr f r/\ar r/\M (V r+10000^r.length*bM t.data.toList=D)/\E (w.heap.size+1) (w.alloc (S #[I J 0 0] 324)) wr) (λv _ _=>match v with| .string t=>t.size|_=>0)
 case atStart=>exact⟨s,[],rfl,HS,by simpa using hs,fa _ _ _ _,by simp[ar],L (by simp[V,HD.o]),ag _ _⟩
 case round=>
  obtain⟨t,r,rfl,z,K,g,N,HV,j⟩:=hrel;have hsz:w.heap.size+1<=wr.heap.size:=by simpa using j.size
  by_cases hz:t.size=0
  .have n:t.data.toList= []:=List.eq_nil_of_length_eq_zero (by simpa using hz);have m:=HV.o;rw[n]at m;have HVV:=L (show V r=D by simpa[bM]using m);clear n m;go_wp2_with fail;refine(aBX _ r _ N (g.I3 (bg _))).mono ?_;rintro e A ⟨a3,m,n,rfl,hm,q⟩;rw[HVV.o]at hm;have u:=(j.block _ (by omega)).trans (bz w _);have P:E w.heap.size w A:=chain (((ag _ _).alloc (ac _) _).trans (j.mono (by omega))) q;have g5:=keep u q;have hl3:(H D).length<617:=by have:=HL.o;omega
   have g8:(A.alloc (S #[I a3 m n] 324)).heap[A.heap.size]?=O (S #[I a3 m n] 324 (0,0)):=bz A _;have h5:=(dt A (S #[I a3 m n] 324) _ (co g5)).trans g5;have R:=P.alloc (by have:=q.size;omega) (S #[I a3 m n] 324);have B:=hm.A4 (S #[I a3 m n] 324);have hl8:=co g8;clear g j u;go_wp2_with fail;generalize A.alloc (S #[I a3 m n] 324)=w4 at*;have hc8:=T g8
   go_region_with
    (go_at_call 200;(with_reducible refine(aD2 a3 m n _ _ B.A9 hl3).mono ?_);rintro e wx ⟨rfl,u⟩;have G:=(u.cell (p:=⟨A.heap.size,0,J⟩) (by simpa using hl8)).trans hc8;have W:=keep (w1:=w4.drew) h5 u;have hf6:=bh W;have hc6:=T W)
   all_goals
    have z6:=T (aB (o:=0) W (I a3 m n));have HFG:=L (((B.A9).A5 u).D6 W (by decide) 0 (I a3 m n));have W:=L ((chain R.drew u).setCell (p:=⟨w.heap.size,0,J⟩) (ac _) (I a3 m n));clear hm B u R g5 P G hf6 hc6;go_wp2;exact av (v:=cj #[h #[I a3 m n],bs true]) (by simp[aw,results182,go_sem,z6]) rfl ⟨a3,m,n,rfl,HFG.o,W.o⟩
  .have z1:(0:Int)<(t.size:Int):=by omega
   obtain⟨F,hF⟩:∃F,t.size-4=F:=⟨_,rfl⟩;have hF1:F<=t.size:=by omega
   have htb:t.size<=2000:=by omega
   have hF4:t.size-F<=4:=by omega
   have hF0:F<t.size:=by omega
   have n:t.data.toList.length=t.size:=by simp
   have q:∀X,X=bM ((t.data.toList.drop F).take (t.size-F))->X<10000/\V (r++ [X])+10000^(r++ [X]).length*bM (t.data.toList.take F)=D:=by
    intro X u;have P:=aFy z.o F (t.size-F);rw[<-u]at P;refine⟨ct P (ao (au (by decide) hF4) (by decide)),?_⟩;have B:=jJ (t.data.toList.take F) (t.data.toList.drop F);rw[List.take_append_drop,dv,n]at B;rw[List.take_of_length_le (by rw[dv,n];omega)]at u;rw[<-u]at B;rw[ee,du,fc,bj,<-HV.o,B,bk];have R:10000^r.length*V [X]=10000^r.length*X:=by simp[V]
    have W:10000*bM (t.data.toList.take F)=bM (t.data.toList.take F)*10^(t.size-F):=by
     by_cases h4:4<t.size
     .rw[show t.size-F=4 by omega,cv]
     .rw[show F=0 by omega];simp[bM]
    rw[R,aj,W];omega
   have P:∀x∈(t.extract 0 F).data.toList,48<=x.toNat/\x.toNat<=57:=λx Y=>z.o x (by
    rw[show(t.extract 0 F).data.toList=t.data.toList.take F by simp]at Y;exact dj Y)
   have R:(t.extract 0 F).size=F:=by simp;omega
   have W:(t.extract 0 F).data.toList=t.data.toList.take F:=by simp
   have B:(4:Int)<(t.size:Int)/\U.wrap ((t.size:Int)-4)=(F:Int)\/¬(4:Int)<(t.size:Int)/\M (F=0):=by
    rcases dx 4 t.size with a0|a0
    .exact ah ⟨by omega,by rw[C];omega⟩
    .exact bx ⟨by omega,L (by omega)⟩
   have u:=L q;have HFD:=L P;have HFS:=L R;have HFT:=L W;have HR:=L K;have HLT:=L n;clear q P R W K n;clear hF;rcases B with⟨q5,q6⟩|⟨q5,H0⟩
   all_goals
    go_wp2_with fail
    go_loopw [7,6] (λv x wx=>∃(i X:Nat),v=Z U i/\F<=i/\i<=t.size/\x=Z U X/\M (X=bM ((t.data.toList.drop F).take (i-F)))/\X<10000/\wr=wx) (λv _ _=>t.size-(ae v).toNat)
    case atStart=>exact⟨F,0,(by first|rfl|rw[H0.o];rfl),ac _,hF1,rfl,L (by simp[bM]),by decide,rfl⟩
    case round=>
     obtain⟨i,X,rfl,q,hi2,rfl,K,hX4,rfl⟩:=hrel
     by_cases P:i<t.size
     .have k1:(i:Int)<(t.size:Int):=by omega
      have hc:=z.o (t[i]) (by show t.data[i]∈t.data.toList;exact Array.getElem_mem_toList _);have k2:fd.wrap (((t[i].toNat:Nat):Int)-48)=((t[i].toNat-48:Nat):Int):=by rw[fh];omega
      have n:10*X+(t[i].toNat-48)=bM ((t.data.toList.drop F).take (i+1-F)):=by
       rw[aGJ q (by rw[HLT.o];exact P),sD,<-K.o];rfl
      have R:10*X+(t[i].toNat-48)<10000:=by
       rw[n];exact ct (aFy z.o F (i+1-F)) (ao (au (by decide) (show i+1-F<=4 by omega)) (by decide))
      generalize t[i].toNat-48=y at*;have W:=L n;have m:U.wrap ((10:Int)*(X:Int))=((10*X:Nat):Int):=by rw[C];omega
      have k4:U.wrap (((10*X:Nat):Int)+(y:Int))=((10*X+y:Nat):Int):=by rw[C];omega
      clear n hc;go_wp2_with fail;exact⟨⟨i+1,10*X+y,by go_num,by omega,by omega,by go_num,W,R,trivial⟩,by simp[ae];omega⟩
     .obtain rfl:i=t.size:=by omega
      obtain⟨G,m⟩:=u.o X K.o;have R:=L m;have k1:¬(t.size:Int)<(t.size:Int):=by omega
      have W:(F:Int)<=(t.size:Int):=by omega
      have hrl:=HR.o;clear m u K
      go_wp2_with (at_builtin;refine cQ aBW rfl _ _ rfl rfl (g.A4 _) ⟨wr.heap.size,0,J⟩ 1 X rfl ?_ rfl ?_ ?_ ?_ ?_)
      .omega
      .unfold bm;omega
      ·(try simp);omega
      intro b cap A n m;have u:=(j.alloc hsz (S #[Z U (X:Int)] 3)).grown m (by simp;omega) (λk hk=>(g.lt k hk).1);have K:=L n;clear n m g;go_wp2_with fail
      go_roundw
      case rel=>exact⟨t.extract 0 F,r++ [X],(by first|rfl|(rw[H0.o];simp)),HFD,by rw[HFS.o,du,fc];omega,K.o,λy g=>by
       rcases List.mem_append.1 g with a0|a0
       .exact N y a0
       .rw[List.mem_singleton.1 a0];exact G,by rw[HFT.o];exact R,u⟩
      case measure=>(simp;omega)
theorem aFC{b n:Nat}(e:b<18446744073709551616)(f:Nat)(c:f+1=2^n)(a:f<18446744073709551616):bits dw ai (b:Int) (f:Int)=((b%(f+1):Nat):Int):=by
 rw[bits_and_u64_nat b f e a,show f=2^n-1 by omega,Nat.and_two_pow_sub_one_eq_mod];rw[show 2^n-1+1=2^n by omega]
theorem wM(b:Nat)(w:Q)(j:b<9223372036854775808):af d 159 #[Z ai b] w λe w'=>e=bw (cj #[Z ai (fL b),Z U (fV b)])/\w'=w:=by
 have b1:bits dw ai (b:Int) 4503599627370495=((b%4503599627370496:Nat):Int):=aFC (n:=52) (by omega) 4503599627370495 (by decide) (by decide);have b2:bits dw ai ((b:Int)/4503599627370496) 2047=((b/4503599627370496%2048:Nat):Int):=aFC (b:=b/4503599627370496) (n:=11) (by omega) 2047 (by decide) (by decide);unfold fV fL m4;have f:b%4503599627370496<4503599627370496:=dp _ (by decide);have i:b/4503599627370496%2048<2048:=dp _ (by decide);generalize b%4503599627370496=m at*;generalize b/4503599627370496%2048=e at*;have b3:U.wrap (e:Int)=(e:Int):=by rw[C];omega
 have b4:U.wrap ((e:Int)-1075)=(e:Int)-1075:=by rw[C];omega
 have g:ai.wrap ((m:Int)+4503599627370496)=((m+4503599627370496:Nat):Int):=by rw[ev];omega
 by_cases c:e=0
 .subst c;rw[if_pos rfl];simp only[et]at*;go_enter func159,ntmps159;go_wp2_with fail;exact av (v:=cj #[Z ai (m:Int),Z U (-1074)]) (by simp[aw,fe,go_sem]) rfl ⟨rfl,rfl⟩
 .rw[if_neg c];have c1:¬(e:Int)=0:=by omega
  have c2:((e:Int)==0)=cr:=by simpa using c1
  have a:((e-1:Nat):Int)-1074=(e:Int)-1075:=by omega
  rw[a];clear a;go_enter func159,ntmps159;go_wp2_with fail;exact av (v:=cj #[Z ai ((m+4503599627370496:Nat):Int),Z U ((e:Int)-1075)]) (by simp[aw,fe,go_sem]) rfl ⟨rfl,rfl⟩
theorem aGQ(neg:Bool)(a:ByteArray)(e:Int)(w:Q)(m:a.size<=2147483648)(k: -4611686018427387904<=e)(i:e<=4611686018427387904):
 af d 181 #[h #[bs neg,cg a,Z U e]] w λr w'=>r=bw (fT ⟨neg,bD a.data.toList,dX a.data.toList e⟩)/\E w.heap.size w w':=by
 have b:a.data.toList.length=a.size:=by simp
 by_cases j:800<a.size
 .have f:(800:Int)<(a.size:Int):=by omega
  have n:U.wrap (e+(a.size:Int))=e+(a.size:Int):=by rw[C];omega
  have l:U.wrap (e+(a.size:Int)-801)=e+(a.size:Int)-801:=by rw[C];omega
  go_enter func181,ntmps181;go_wp2_with fail;go_region;go_wp2_with fail;refine av (v:=h #[bs neg,cg (a.extract 0 800++⟨#[49]⟩),Z U (e+a.size-801)]) (by simp[aw,fg,go_sem]) rfl ⟨?_,((((ag _ _).alloc (ac _) _).alloc (by simp) _).drew)⟩;have c:bD a.data.toList=(a.extract 0 800++⟨#[49]⟩:ByteArray).data.toList:=by unfold bD;rw[if_pos (by omega)];simp
  have g:dX a.data.toList e=e+a.size-801:=by unfold dX;rw[if_pos (by omega),b];omega
  rw[c,g];rfl
 .have f:¬(800:Int)<(a.size:Int):=by omega
  unfold bD dX;rw[if_neg (by omega),if_neg (by omega)];go_enter func181,ntmps181;go_wp2_with fail;exact av (v:=h #[bs neg,cg a,Z U e]) (by simp[aw,fg,go_sem]) rfl ⟨rfl,((ag _ _).alloc (ac _) _).alloc (by simp) _⟩
theorem oB{w:Q}{f pl b:Nat}{held:List UInt8}{c:Array az}{l:TypeId}(k:Feeds w f pl held)(a:w.heap[b]?=O (S c l (0,0)))(i:l≠305):f≠b:=by
 obtain⟨_,j,a1,a2,a3,g,_⟩:=k;intro e;subst e;rw[g]at a;simp at a;exact i a.2.symm
theorem sY{j:Type}{e:Nat}{enc:j->az}{w:Q}{f pl:Nat}{held:List UInt8}{v:az}{l:List j}(i:Feeds w f pl held)(a:Win e enc w v l)(c:e≠305):v.ownBlock≠O f:=by
 obtain⟨_,g,a1,a2,a3,b,_⟩:=i;exact a.ne b (λe=>c e.symm)
theorem rX{p q:Type}{e f:Nat}{enc:p->az}{a:q->az}{w:Q}{v b:az}{l:List p}{o:List q}(r:Win e enc w v l)(j:Win f a w b o)(m:e≠f){k:Nat}(c:v.ownBlock=O k):b.ownBlock≠O k:=by
 rcases r with⟨rfl,_⟩|⟨g,off,cap,n,rfl,i,_⟩
 .cases c
 .cases c;exact j.ne i m
theorem step_within(F:Nat->Prop)(w:Q)(b:Nat)(x:Lx)(toks:List Tok)(c:UInt8)(a0:cE F w b x cr toks)(A:x.st=.within)(hst2:x.start<=x.place)(N:x.says.length<=1073741824)(hpl:x.place<=16777216)(htl:toks.length<=1000):
 af d 138 #[.pointer (O ⟨b,0,J⟩),Z fd ((c.toNat:Nat):Int)] w λe w'=>eQ F w b x.place toks (bW x c) e w':=by
 have h0:=a0;obtain⟨K,n,P,chV,o,m,s,p,R⟩:=a0;obtain⟨j,f,B,rfl,i,t,hfp⟩:=R.text (by rw[A];rfl);have W:(toks.map bS).length<=1000:=by simpa using htl
 have X:f≠b:=oB i s (by decide);unfold bW
 by_cases h1:x.held= []/\c=34
 .rw[if_pos h1];obtain⟨l,rfl⟩:=h1;rw[l]at i;refine(aEp w b f B x.place x.start _ _ _ _ _ _ _ _ _ o m x.says _ s i j.1 p.1 W (by omega) (by omega)).mono λe w' q=>?_
  obtain⟨r,a,v⟩:=aAX (y:=x.F3) (tok:=.str x.start (x.place+1-x.start) x.says) K n p rfl rfl (λu=>rfl) q;exact .I1 r a v
 rw[if_neg h1]
 by_cases h2:x.held= []/\c=92
 .rw[if_pos h2];obtain⟨l,rfl⟩:=h2;have z:=i;rw[l]at z;refine(yL w b f B _ _ _ _ _ _ _ _ _ _ _ _ _ s z).mono ?_;rintro e w' ⟨rfl,v,a⟩;have q:Keeps F w w':=a.A6 (λk e=>e▸K);have r:=i.A0 a X;refine .I1 rfl q ⟨ah K,aF n a.size,_,_,_,m,v,by rw[cu];exact p.A0 (G:=λk=>k=b) a (λk e a=>p.1.ne s (by decide) (e.trans (congrArg O a))),⟨λR=>?_,λ_=>⟨j.A0 (G:=λk=>k=b) a (λk e a=>j.1.ne s (by decide) (e.trans (congrArg O a))),f,B,rfl,r,ah t,hfp⟩⟩⟩;simp at R
 rw[if_neg h2]
 by_cases Y:x.held= []/\c.toNat<32
 .rw[if_pos Y];rw[Y.1]at i;refine(wZ w b f B _ _ _ _ _ _ _ _ _ _ _ _ _ c s i Y.2).mono ?_;rintro e w' ⟨rfl,rfl⟩;exact .M2 (by decide) rfl (Keeps.A3 _ _) (by rw[cu];exact h0.H8.A6 (λk a=>ah a) (aF n (ac _)))
 rw[if_neg Y]
 have hpi:oR x.held c:=by
  unfold oR
  by_cases l:x.held= []
  .exact bx ⟨λe=>h1 ⟨l,e⟩,λe=>h2 ⟨l,e⟩,di (λe=>Y ⟨l,e⟩)⟩
  .exact ah l
 cases hfo:aK x.held c with
 | none=>
  refine(aEq w b f B _ _ _ _ _ _ _ _ _ _ _ _ _ c _ s i (by omega) hpi hfo).mono ?_;rintro e w' ⟨rfl,a⟩;have q:Keeps F w w':=a.A6 (λk e=>e▸t);exact .M2 (by decide) rfl q ⟨ah K,aF n a.size,_,_,_,_,_,_,_,_,_,_,m,a.C4 s (λe=>X e.symm),by rw[cu];exact p.A0 (G:=λk=>k=f) a (λk e a=>sY i p.1 (by decide) (e.trans (congrArg O a)))⟩
 | some h'=>
  refine(aCD w b f B _ _ _ _ _ _ _ _ _ _ _ _ o c _ h' x.says s i j.1 N (by omega) hpi hfo).mono ?_;rintro e w' ⟨rfl,g,off,cap,v,z,hg,r,a⟩
  have q:Keeps F w w':=a.A6 (λk e=>by
   rcases e with rfl|rfl|e
   .exact K
   .exact t
   .exact j.2 k e)
  refine .I1 rfl q ⟨ah K,aF n a.size,P,_,_,m,by rw[A]at v⊢;simpa using v,?_,⟨λR=>?_,λ_=>⟨?_,f,B+1,rfl,r,ah t,?_⟩⟩⟩
  .rw[cu];refine⟨p.1.A0 a ?_,λk l=>ah (p.2 k l)⟩;intro k l D;rcases D with rfl|rfl|D
   .exact p.1.ne s (by decide) l
   .exact sY i p.1 (by decide) l
   .exact rX j.1 p.1 (by decide) D l
  .simp[A]at R
  .refine⟨by simpa using z,?_⟩;intro k l;cases l;exact hg.elim (λe=>ah (j.2 _ e)) (λD=>bx ⟨D,z.lt rfl⟩)
  .simp;omega
end Go.Proofs.YtakkmiomhackiaaGreatDoor
