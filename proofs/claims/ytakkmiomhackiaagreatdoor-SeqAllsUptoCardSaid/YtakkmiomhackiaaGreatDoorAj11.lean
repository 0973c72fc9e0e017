/-
  The program, one part of its walk. Conditions: none.
-/
import Derived.Test.YtakkmiomhackiaaGreatDoorAj10
set_option linter.all false
set_option maxRecDepth 100000
set_option maxHeartbeats 16000000
open Go.Proofs.Tryz
open Bool renaming false->Q,true->J
open Go renaming Addr->au,Calls->ah,Value->ae,World->U,maxLen->aw,results->bp
open Go.Proofs.Tryz renaming func164->co,ntmps164->cr,prog->ag,results164->ct,underlying32->cg
open Go.Proofs.YtakkmiomhackiaaGreatDoor.Form renaming D4->eu
open Go.Proofs.YtakkmiomhackiaaGreatDoor.St renaming outside->dw,within->dx
open List renaming foldl->et,headD_cons->fm,mem_singleton->fk,take_add->ei,take_add_one->fa
open Option renaming none->O,some->I
open Or renaming inl->af,inr->G
open UInt8 renaming ofNat->C
namespace Go.Proofs.YtakkmiomhackiaaGreatDoor
open Go.RowKit
open Addr renaming add->em
open Ending renaming returned->ak
open IntKind renaming i64->Z
open Lib renaming run_eql_slice_nil->dp
open Obj renaming cells->h,map->bu
open Proofs renaming intOf->bj
open Keeps renaming A2->L,A4->dh
open Lx renaming B5->ar,B7->fh,F4->bk
open Tr renaming A9->dv,object->cw
open aQ renaming I4->dq
open RowKit renaming Below->aj
open Value renaming bool->cj,iface->ai,int->Y,nilIface->ew,pointer->bh,slice->S,tuple->az
open Value.slice renaming injEq->fv
open World.ownsMap renaming drew->fu
variable {n:Nat}{a b c:UInt8}{W l:Oo}{P:Option Oo}{neg:Bool}
def sX:lB 32 9 1 16:=⟨cg,by decide,by
 have e:(ag.info? 9).map (λi=>(i.zero,i.size,i.bytes))=I (I (.string ⟨#[]⟩),1,16):=by kernel_rfl
 obtain⟨i,c,a,d,b⟩:=info_parts e;exact⟨i,_,c,a,d,b,rfl⟩⟩
def aBP(w:U)(keys:List (List UInt8))(e:Ending)(w':U):Prop:=
 ∃v,e=ak v/\Win 9 encS w' v keys/\(∀k,v.ownBlock=I k->w.heap.size<=k/\k<w'.heap.size)/\aj w w w'
def aAi(w:U):ah ag 164 #[()] w λe w'=>aBP w [] e w':=by
 have d:∀(w:U)(a:Option au)(n c n' b:Nat),(binOp .eql 32 (S a n c) (S O n' b)).run ag w=.ok (cj a.isNone) w:=λw a n c n' b=>dp w _ _ a n c n' b cg;go_enter co,cr;go_wp2_with fail;exact bb (v:=S O 0 0) (by simp[bp,ct,go_sem]) rfl ⟨_,rfl,.nil _ _ _,λk f=>(by cases f),dk _ _⟩
def yL(w:U)(g off cap:Nat)(keys:List Oo)(r:keys.length<=1048576)(f:∀i x,(keys.map encS)[i]?=I x->w.cell? ⟨g,off+i,O⟩=I x):
 ah ag 164 #[S (g,off) keys.length cap] w λe w'=>aBP w keys e w':=by
 have l:aj w.heap.size w (w.alloc (h #[] 9)):=(dk _ _).alloc (hU _) _;have d:=aL w (h #[] 9);have m:aQ 1 9 (w.alloc (h #[] 9)) (S (I ⟨w.heap.size,0,O⟩) 0 0) 0 []:=⟨by simp,G ⟨w.heap.size,0,0,#[],rfl,d,hU _,by simp,dr _,λj u p=>by simp at p⟩⟩;have s:=A l;have q:=A m;have t:=A r;have o:=A (λv(D:v∈keys.map encS)=>show v.oneCell'=J by obtain⟨k,_,rfl⟩:=ni.1 D;rfl)
 have b:∀j u,(keys.map encS)[j]?=I u->(w.alloc (h #[] 9)).cell? ((⟨g,off,O⟩:au).add j)=I u:=by
  intro j u p;have z:(⟨g,off,O⟩:au).add j=⟨g,off+j,O⟩:=by unfold em;split<;>simp_all
  rw[z];have y:=f j u p;exact(World.cell?_of_block (Below.heap_alloc _ _ _ (World.block_lt_of_cell? w _ y))).trans y
 have E:=A b;clear l d m r f b;have F:∀(w:U)(a:Option au)(n c n' m:Nat),(binOp .eql 32 (S a n c) (S O n' m)).run ag w=.ok (cj a.isNone) w:=λw a n c n' m=>dp w _ _ a n c n' m cg;by_cases d:keys= []
 .subst d;go_enter co,cr;go_wp2_with (at_builtin;refine sD sX rfl _ _ rfl rfl q.o (I ⟨g,off,O⟩) cap rfl ?_);go_wp2_with fail;exact bb (v:=S (I ⟨w.heap.size,0,O⟩) 0 0) (by simp[bp,ct,go_sem]) rfl ⟨_,rfl,dq (by simpa using q.o),λk f=>(by cases f;exact⟨hU _,by simp⟩),s.o⟩
 .obtain⟨n,l⟩:∃n,keys.length=n+1:=⟨keys.length-1,by have:=List.length_pos_iff.2 d;omega⟩;rw[l];have b:=A l;clear d l;go_enter co,cr;go_wp2_with (at_builtin;refine bC sX rfl _ _ rfl rfl q.o ⟨g,off,O⟩ (n+1) cap (keys.map encS) rfl ?_ E.o ?_ ?_ ?_ ?_ ?_)
  .rw[kt,b.o];omega
  .exact o.o
  .omega
  .have:=t.o;rw[b.o]at this;omega
  .have:=t.o;rw[b.o]at this;unfold aw;omega
  intro H d c w' y z l;have r:=A y;have K:=A z;have B:=A l;clear y z l;go_wp2_with fail;refine bb (v:=S (H,d) (n+1) c) (by simp[bp,ct,go_sem]) rfl ?_;refine⟨_,rfl,?_,?_,?_⟩
  .exact dq (n:=n+1) (by simpa using r.o)
  .intro k l;cases l;rcases K.o with f|f
   .cases f;exact⟨hU _,a7 (by simp) B.o.size⟩
   .exact⟨bo (by simp) f.1,f.2⟩
  .exact((L (λ_=>False) s.o).trans B.o (λk f=>G (by cases f;exact hU _))).A6 (hU _) (λ_ f=>f.elim)
def qG(w:U)(V:ae)(keys:List Oo)(f:keys.length<=1048576)(d:Win 9 encS w V keys):ah ag 164 #[V] w λe w'=>aBP w keys e w':=by
 rcases d with⟨rfl,rfl⟩|⟨g,off,cap,c,rfl,j,-,-,-,hi⟩
 .exact aAi w
 .refine yL w g off cap keys f (λi x a=>?_);rw[ed]at a;cases b:keys[i]? with
  | none=>rw[b]at a;cases a
  | some y=>
   rw[b]at a;cases a;rw[aA j];exact hi i y b
def aFf(w:U):ah ag 280 #[(),Y Z 0,Y Z 0,.func (.func 240) #[] #[]] w λe w'=>e=ak (az #[])/\w'=w:=by
 go_enter func280,ntmps280;go_wp2_with fail;go_loop [8] (λv=>v=Y Z 1) (λv=>0)
 case atStart=>rfl
 case round=>
  subst hrel;go_wp2;go_end0;exact⟨rfl,rfl⟩
def aLl(w:U)(l:Nat):ah ag 259 #[(),Y Z 0,Y Z 0,l,.func (.func 240) #[] #[]] w λe w'=>e=ak (az #[])/\w'=w:=by
 go_enter func259,ntmps259;go_wp2_with fail;go_loop [1,2] (λa b=>a=Y Z 0/\b=Y Z 0) (λ_ _=>0)
 case atStart=>exact⟨rfl,rfl⟩
 case round=>
  obtain⟨rfl,rfl⟩:=hrel;go_wp2_with fail;refine(aFf w).mono ?_;rintro e w1 ⟨rfl,rfl⟩;go_wp2_with fail;exact bb (v:=az #[]) (by simp[bp,results259,go_sem]) rfl ⟨rfl,rfl⟩
def aJZ(w:U):ah ag 239 #[(),.func (.func 240) #[] #[]] w λe w'=>e=ak (az #[])/\w'=w:=by
 have a:=A (Tryz.T1 0 w (by decide) (by decide));go_enter func239,ntmps239;go_wp2_with fail;refine(a.o).mono ?_;rintro e w1 ⟨rfl,rfl⟩;go_wp2_with fail;refine(aLl _ _).mono ?_;rintro e w2 ⟨rfl,rfl⟩;go_wp2;go_end0;exact⟨rfl,rfl⟩
def gA(g:Oo)(a b:Oo):aX g (a++b)=(aX g a).bind λd=>aX d b:=by
 unfold aX;rw[lf];cases f:et (λa c=>a.bind λg=>aO g c) (I g) a with
 | some d=>rfl
 | none=>
  show et _ O b=O
  induction b with
  | nil=>rfl
  | cons c b e=>exact e
def cD(d:Oo)(c:UInt8)(b:Oo):aX d (c::b)=(aO d c).bind λa=>aX a b:=by
 have:=gA d [c] b;rw[List.singleton_append]at this;rw[this];rfl
def gW(a:n<256):(C n).toNat=n:=by
 rw[UInt8.toNat_ofNat'];exact Nat.mod_eq_of_lt a
def xR(f:Form){i:Nat}{c:UInt8}(hi:i≠1)(b:128<=c.toNat)(a:c.toNat<=191):f.D4 i c=J:=by
 unfold eu;rw[py hi];simp[b,a]
def tZ(f:Form){c:UInt8}(a:f.low<=c.toNat)(b:c.toNat<=f.g):f.D4 1 c=J:=by
 unfold eu;rw[pz rfl];simp[a,b]
def aJA(c:(aC a).wide=2)(f:(aC a).low<=b.toNat)(e:b.toNat<=(aC a).g):aX [] [a,b]=I []:=by
 have d:aO [] a=I [a]:=by unfold aO;simp[c]
 have g:aO [a] b=I []:=by unfold aO;simp[c,tZ _ f e]
 rw[cD,d];show aX [a] [b]=_;rw[cD,g];rfl
def aEX(d:(aC a).wide=3)(k:(aC a).low<=b.toNat)(g:b.toNat<=(aC a).g)(l:128<=c.toNat)(j:c.toNat<=191):aX [] [a,b,c]=I []:=by
 have e:aO [] a=I [a]:=by unfold aO;simp[d]
 have m:aO [a] b=I [a,b]:=by unfold aO;simp[d,tZ _ k g]
 have f:aO [a,b] c=I []:=by unfold aO;simp[d,xR (aC a) (i:=2) (by decide) l j]
 rw[cD,e];show aX [a] [b,c]=_;rw[cD,m];show aX [a,b] [c]=_;rw[cD,f];rfl
def aHt{d:UInt8}(e:(aC a).wide=4)(n:(aC a).low<=b.toNat)(k:b.toNat<=(aC a).g)(p:128<=c.toNat)(l:c.toNat<=191)(o:128<=d.toNat)(f:d.toNat<=191):aX [] [a,b,c,d]=I []:=by
 have g:aO [] a=I [a]:=by unfold aO;simp[e]
 have q:aO [a] b=I [a,b]:=by unfold aO;simp[e,tZ _ n k]
 have j:aO [a,b] c=I [a,b,c]:=by unfold aO;simp[e,xR (aC a) (i:=2) (by decide) p l]
 have m:aO [a,b,c] d=I []:=by unfold aO;simp[e,xR (aC a) (i:=3) (by decide) o f]
 rw[cD,g];show aX [a] [b,c,d]=_;rw[cD,q];show aX [a,b] [c,d]=_;rw[cD,j];show aX [a,b,c] [d]=_;rw[cD,m];rfl
def fM(r:Nat):Prop:=r<55296\/(57344<=r/\r<=1114111)
def nJ{r:Nat}(n:fM r):aX [] (aT r)=I []:=by
 unfold aT;by_cases g:r<128
 .rw[pz g];have l:(C r).toNat=r:=gW (by omega);rw[cD];have:aO [] (C r)=I []:=by unfold aO aC;rw[l];simp[g]
  rw[this];rfl
 rw[py g];by_cases j:r<2048
 .rw[pz j];have d:(C (192+r/64)).toNat=192+r/64:=gW (by omega);have b:(C (128+r%64)).toNat=128+r%64:=gW (by omega)
  have a:aC (C (192+r/64))=⟨2,128,191⟩:=by
   unfold aC;rw[d,py,py,pz]
  refine aJA (by rw[a]) ?_ ?_<;>rw[a,b]<;>simp only[]<;>omega
 rw[py j];by_cases k:r<65536
 .rw[pz k];have d:(C (224+r/4096)).toNat=224+r/4096:=gW (by omega);have b:(C (128+r/64%64)).toNat=128+r/64%64:=gW (by omega);have e:(C (128+r%64)).toNat=128+r%64:=gW (by omega)
  have a:(aC (C (224+r/4096))).wide=3/\(aC (C (224+r/4096))).low<=128+r/64%64/\128+r/64%64<=(aC (C (224+r/4096))).g:=by
   unfold aC;rw[d,py,py,py];by_cases c:224+r/4096=224
   .rw[pz c];exact⟨rfl,by simp only[];omega,by simp only[];omega⟩
   rw[py c];by_cases f:224+r/4096=237
   .rw[pz f];rcases n with n|n
    .exact⟨rfl,by simp only[];omega,by simp only[];omega⟩
    .omega
   rw[py f,pz];exact⟨rfl,by simp only[];omega,by simp only[];omega⟩
  exact aEX a.1 (by rw[b];exact a.2.1) (by rw[b];exact a.2.2) (by rw[e];omega) (by rw[e];omega)
 rw[py k];have m:r<=1114111:=by rcases n with n|n<;>omega
 have d:(C (240+r/262144)).toNat=240+r/262144:=gW (by omega);have b:(C (128+r/4096%64)).toNat=128+r/4096%64:=gW (by omega);have e:(C (128+r/64%64)).toNat=128+r/64%64:=gW (by omega);have i:(C (128+r%64)).toNat=128+r%64:=gW (by omega)
 have a:(aC (C (240+r/262144))).wide=4/\(aC (C (240+r/262144))).low<=128+r/4096%64/\128+r/4096%64<=(aC (C (240+r/262144))).g:=by
  unfold aC;rw[d,py,py,py,py,py,py];by_cases c:240+r/262144=240
  .rw[pz c];exact⟨rfl,by simp only[];omega,by simp only[];omega⟩
  rw[py c];by_cases f:240+r/262144<244
  .rw[pz f];exact⟨rfl,by simp only[];omega,by simp only[];omega⟩
  rw[py f,pz];exact⟨rfl,by simp only[];omega,by simp only[];omega⟩
 exact aHt a.1 (by rw[b];exact a.2.1) (by rw[b];exact a.2.2) (by rw[e];omega) (by rw[e];omega) (by rw[i];omega) (by rw[i];omega)
def fS(r:Nat):1<=(aT r).length/\(aT r).length<=4/\(r<65536->(aT r).length<=3):=by
 unfold aT;split
 .simp
 .split
  .simp
  .split
   .simp
   .rename_i b;exact⟨by simp,by simp,λa=>absurd a b⟩
def sL{v:Nat}(a:hexOf c=I v):v<16:=by
 unfold hexOf at a;split at a
 .cases a;omega
 .split at a
  .cases a;omega
  .split at a
   .cases a;omega
   .cases a
def aCa(w:U)(m:Nat)(keys:List (List UInt8))(i:Nat)(wr:U):Prop:=
 aj w w wr/\w.heap.size<=m/\iD wr m (keys.take i).reverse
def aGX:∀(l:List Oo)(a:Nat),a<=l.foldl (λa k=>a+k.length) a
 | [],_=>hU _
 | x::l,a=>bo (Nat.le_add_right a x.length) (aGX l (a+x.length))
def aBb{l:List Oo}(a:l.Nodup):l.reverse.Nodup:=List.pairwise_reverse.2 (a.imp λa e=>a e.symm)
def aFN(k:Oo)(w:U)(a:k.length<=1073741824):ah ag 218 #[.string ⟨k.toArray⟩] w λe w'=>e=ak (cj (aV k))/\aj w w w':=by
 have b:=right_any ⟨k.toArray⟩ w (by show k.toArray.size<=_;simpa using a);simpa using b
def aFO{l:List Oo}{i:Nat}:bD (l.take i)<=bD l:=by
 conv=>rhs;rw[<-List.take_append_drop i l]
 unfold bD;rw[lf];exact aGX _ _
def aGY(c:U)(p d a b n:Nat)(z:Sz)(e:List ae)(j:Nat)(wr:U):Prop:=
 Keeps (λk=>k=p) c wr/\∃V,wr.heap[p]?=I (h #[z.g,z.bytes,z.h,S (d,a) n b,V] 189 (0,0))/\Win 97 id wr V (e.take j)/\∀q,V.ownBlock=I q->c.heap.size<=q
def aLE(w:U)(b:Nat)(V:ae)(a:List ae)(keys:List (List UInt8))(z:Sz)(w':U):Prop:=
 ∃(c:U)(p:Nat)(d e:ae),aj w w c/\w.heap.size<=p/\c.heap[p]?=I (h #[z.g,z.bytes,z.h,d,e] 189 (0,0))/\
  Win 9 encS c d (dC keys)/\(∀q,d.ownBlock=I q->w.heap.size<=q)/\
  Win 97 id c e ((dC keys).map λk=>(a.drop (a.length-keys.length)).getD (keys.idxOf k) ew)/\(∀q,e.ownBlock=I q->w.heap.size<=q)/\
  jX c b V a (a.length-keys.length) 187 (bh p) w'
def tI(w:U)(b:Nat)(V:ae)(c:List ae)(a:List Tr)(keys:List (List UInt8))(e:Ending)(w':U):Prop:=
 (∃no:Nat,e=.panicked [{v:=ai 29 (Y Z no),recovered:=Q}]/\po a keys=a/\aj w w w')\/
  (e=ak (az #[])/\keys.length<=c.length/\po a keys=a.take (c.length-keys.length)++ [cw (dC keys) (besides keys (a.drop (c.length-keys.length)))]/\
   aLE w b V c keys (cw (dC keys) (besides keys (a.drop (c.length-keys.length)))).A9 w')
def Win.S6{q:Type}{e:Nat}{enc:q->ae}{w:U}{g off cap:Nat}{l:List q}(r:Win e enc w (S (g,off) n cap) l){i:Nat}{x:q}(j:l[i]?=I x):w.cell? ⟨g,off+i,O⟩=I (enc x):=by
 rcases r with⟨a,_⟩|⟨k,b,c,f,a,d,p,m,o,hi⟩
 .cases a
 .cases a;rw[aA d];exact hi i x j
def vO(b j:Nat):(⟨b,0,O⟩:au).add j=⟨b,j,O⟩:=by unfold em;split<;>simp_all
def vP(w:U):(Instr.makeMap 263 O).run ag w=.ok (.map (I w.heap.size)) (w.alloc (bu #[] 0)):=by kernel_rfl
def aDP(w:U)(F:Nat->Prop)(b g off cap:Nat)(V:ae)(a:List ae)(d:List Tr)(keys:List Oo)(a0:w.heap[b]?=I (h #[V] 195 (0,0)))(K:Win 97 id w V a)(ht:eF F w a d)(o:∀t∈d,t.A9.B9=J)(hl:d.length<=65536)
 (f:Win 9 encS w (S (g,off) keys.length cap) keys)(g3:bK keys)(r:keys.Nodup)(m9:bD keys<=2097152)(p0:keys.length<=4194304)(n0:keys≠ []):
 ah ag 222 #[bh b,S (g,off) keys.length cap] w λe w'=>tI w b V a d keys e w':=by
 have g7:∀i k,keys[i]?=I k->w.cell? ⟨g,off+i,O⟩=I (encS k):=by
  rcases f with⟨E,_⟩|⟨g',h9,i0,N,E,P,R,W,D,hi⟩
  .cases E
  .cases E;exact λi k B=>by rw[aA P];exact hi i k B
 have i1:g<w.heap.size:=f.lt rfl;have k2:=A g7;have n1:=A f;have HR:=A (λk(B:k∈keys)(w:U)=>aFN k w (by have:=(g3 k B).2;omega));have g8:=A g3;have h4:=A r;have H:=A a0;have HW:=A K;have HT:=A ht;have k3:=A o;clear g7 a0 K ht o g3 r f;go_enter func222,ntmps222;go_wp2;go_loopw [18] (λv wr=>∃i:Nat,v=Y Z i/\i<=keys.length/\M (aj w w wr)) (λv _=>keys.length-(bj v).toNat)
 case atStart=>exact⟨0,rfl,dr _,A (dk _ _)⟩
 case round=>
  obtain⟨i,rfl,g4,HB⟩:=hrel;by_cases hi:i<keys.length
  .obtain⟨k,B⟩:∃k,keys[i]?=I k:=⟨_,bf hi⟩;have o:=(HB.o.cell (p:=⟨g,off+i,O⟩) i1).trans (k2.o i k B);have f:=A (HR.o k (lx B));have g3:aV k=J:=(g8.o k (lx B)).1;simp only[g3]at f;unfold encS at o;obtain⟨s,hs⟩:∃s:ByteArray,(⟨k.toArray⟩:ByteArray)=s:=⟨_,rfl⟩;rw[hs]at f o;clear B g3 hs;go_wp2_with fail;refine(f.o _).mono ?_;rintro e w1 ⟨rfl,r⟩;have E:=A (chain HB.o r);clear r;go_wp2_with fail;refine(dT _ 100).mono ?_;rintro e w2 ⟨rfl,rfl⟩;go_wp2_with fail;exact⟨⟨i+1,by go_num,by omega,E⟩,by simp[bj];omega⟩
  .have i7:i=keys.length:=(by omega);subst i7;obtain⟨m,D⟩:∃m,wr.heap.size=m:=⟨_,rfl⟩;have k4:M (aCa w m keys 0 (wr.alloc (bu #[] 0))):=A ⟨HB.o.alloc HB.o.size _,by rw[<-D];exact HB.o.size,by rw[<-D];exact iD.R1 wr⟩;have k5:=vP wr;rw[D]at k5;obtain⟨w0,f⟩:∃w0,wr.alloc (bu #[] 0)=w0:=⟨_,rfl⟩;rw[f]at k5 k4;clear f D;go_wp2;go_loopw [7,29] (λy v wr=>∃i:Nat,v=Y Z i/\y=Y Z (bD (keys.take i))/\i<=keys.length/\M (aCa w m keys i wr)) (λ_ v _=>keys.length-(bj v).toNat)
   case atStart=>exact⟨0,rfl,rfl,dr _,k4⟩
   case round=>
    obtain⟨i,rfl,rfl,g4,HM⟩:=hrel;by_cases hi:i<keys.length
    .obtain⟨k,B⟩:∃k,keys[i]?=I k:=⟨_,bf hi⟩;have o:=(HM.o.1.cell (p:=⟨g,off+i,O⟩) i1).trans (k2.o i k B);have K:k.length<=aw:=(by have:=(g8.o k (lx B)).2;unfold aw;omega);have g5:(keys.take (i+1)).reverse=k::(keys.take i).reverse:=by rw[fa,B];simp
     have W:decide (k∈(keys.take i).reverse)=Q:=by
      have:=h4.o.sublist (List.take_sublist (i+1) keys);have f:=aBb this;rw[g5]at f;exact decide_eq_false (List.nodup_cons.1 f).1
     have r:(keys.take i).reverse.length=i:=(by simp;omega);obtain⟨c,P⟩:=HM.o.2.2.S5 K;obtain⟨w1,R,E,N⟩:=HM.o.2.2.C5 (by rw[r];omega) K;rw[W]at P;rw[r]at R;rw[<-g5]at E;have g1:M (aCa w m keys (i+1) w1):=A ⟨((L (λ_=>False) HM.o.1).trans (mW N) (λq e=>G (e▸HM.o.2.1))).A6 (hU _) (λ_ a0=>a0.elim),HM.o.2.1,E⟩;have f:=aBB B;have i8:bD (keys.take (i+1))<=2097152:=bo aFO m9;have D:(⟨k.toArray⟩:ByteArray).size=k.length:=(by show k.toArray.size=_;simp);unfold encS at o P R;obtain⟨s,hs⟩:∃s:ByteArray,(⟨k.toArray⟩:ByteArray)=s:=⟨_,rfl⟩;obtain⟨y,hy⟩:∃y,bD (keys.take i)=y:=⟨_,rfl⟩;rw[hs]at P o R D;rw[<-D,hy]at f;rw[f]at i8;have X:=A f;rw[hy];clear B hs W r E N g5 hy K f D;go_wp2_with fail;refine(dT _ 101).mono ?_;rintro e w2 ⟨rfl,rfl⟩;go_wp2_with fail;exact⟨⟨i+1,by go_num,by rw[X.o];go_num,by omega,g1⟩,by simp[bj];omega⟩
    .have i7:i=keys.length:=(by omega);subst i7;have f:=HM.o.2.2;rw[List.take_length]at f⊢;have n2:=A f;clear f;have o:=HW.o.A0 (L (λ_=>False) HM.o.1) (λ_ _=>id);have r:=(L (λ_=>False) HM.o.1).B4 H.o id;by_cases f:a.length<keys.length
     .have N:=A (aCO wr b keys.length V a r o f);have E:=A f;clear o r f;go_wp2_with fail;refine(N.o).mono ?_;rintro e w1 ⟨rfl,rfl⟩;go_wp2_with fail;exact⟨rfl,af ⟨102,rfl,by unfold po;rw[pz (by have:=E.o;have:=HT.o.1;omega)],HM.o.1⟩⟩
     .have N:=HT.o.1;have n3:=A (wK wr b keys.length V a r o (by omega) HT.o.M1 (by omega));have E:(a.drop (a.length-keys.length)).length=keys.length:=(by rw[ea];omega);have i9:=A E;have g9:=A (show keys.length<=a.length by omega);have o8:keys.length<=65536:=(by omega);clear o r E N f;go_wp2_with fail;refine(n3.o).mono ?_;rintro e w3 ⟨g1,rfl,f,P,o⟩;obtain⟨ta,tc,k6⟩:=f.A8;rw[i9.o]at k6;have k7:=A (chain HM.o.1 o);have n4:=A f;have k8:=A (λq(e:g1.ownBlock=I q)=>(⟨bo HM.o.1.size (P q e).1,(P q e).2⟩:w.heap.size<=q/\q<w3.heap.size));have n5:=A (n2.o.A0 (L (λ_=>False) o) id);have HS:=A (mT F w3 g1 (a.drop (a.length-keys.length)) (d.drop (a.length-keys.length)) (bD keys) f ((HT.o.A0 (L (λ_=>False) k7.o) (λ_ _=>id)).M7 _) (λt m=>k3.o t (ob m)) (by rw[ea];omega) (by omega));subst k6;clear f P o;go_wp2_with fail;refine(HS.o).mono ?_;rintro e w4 ⟨rfl,f⟩;have o:∀z:Sz,szV z=.agg #[z.g,z.bytes,z.h]:=λ_=>rfl;obtain⟨z,hz⟩:∃z:Sz,fY (bD keys) ((d.drop (a.length-keys.length)).map dv)=z:=⟨_,rfl⟩;have HZ:=A hz;rw[hz,o];have j0:=A (chain k7.o f);have n6:=A (n4.o.A0 (L (λ_=>False) f) (λ_ _=>id));have k9:=A (n5.o.A0 (L (λ_=>False) f) id);have n7:=A (qG w4 (S (g,off) keys.length cap) keys (by omega) (n1.o.A0 (L (λ_=>False) j0.o) (λ_ _=>id)));have h0:=A (λq e=>(⟨(k8.o q e).1,a7 (k8.o q e).2 f.size⟩:w.heap.size<=q/\q<w4.heap.size));clear f hz o;go_wp2_with fail;refine(n7.o).mono ?_;rintro e w5 ⟨n8,rfl,E,R,r⟩;rcases E with⟨_,l0⟩|⟨W,f,o,l1,rfl,X,N,g6,h3,P⟩
      .exact absurd l0 n0
      have E:Win 9 encS w5 (S (W,f) keys.length o) keys:=G ⟨W,f,o,l1,rfl,X,N,g6,h3,P⟩;have n9:=A E;have j1:=A (R W rfl);have j2:=A (chain j0.o r);have l2:=A (n6.o.A0 (L (λ_=>False) r) (λ_ _=>id));have o0:=A (k9.o.A0 (L (λ_=>False) r) id);have l3:=A (λq e=>(⟨(h0.o q e).1,a7 (h0.o q e).2 r.size⟩:w.heap.size<=q/\q<w5.heap.size));clear E R r X N g6 h3 P;obtain⟨p,hp⟩:∃p,w5.heap.size=p:=⟨_,rfl⟩;obtain⟨w6,j3⟩:∃w6,w5.alloc (h #[z.g,z.bytes,z.h,S (W,f) keys.length o,()] 189)=w6:=⟨_,rfl⟩;have E:aj w5 w5 w6:=(by rw[<-j3];exact(dk _ _).alloc (hU _) _);have N:w6.heap[p]?=I (h #[z.g,z.bytes,z.h,S (W,f) keys.length o,()] 189 (0,0)):=(by rw[<-j3,<-hp];exact aL w5 _);have R:w6.heap.size=p+1:=(by rw[<-j3,<-hp];simp);have r:=aJn w6 W f o (qA keys g8.o) (by rw[mU,aAM];exact n9.o.A0 (L (λ_=>False) E) (λ_ _=>id)) (by rw[mU];omega);rw[mU,<-oD g8.o]at r;have j4:=A r;have o1:=A N;have h5:=A E;have j5:=A hp;have h7:w6.cell? ⟨p,3,O⟩=I (S (W,f) keys.length o):=(by rw[aA N];rfl);clear r N E R;go_wp2_with fail;refine(j4.o).mono ?_;rintro e w7 ⟨rfl,R,E⟩;have N:p≠W:=λe=>(by have:=R.lt rfl;have h1:=j1.o.2;omega);have h3:=E.B4 o1.o N;have h8:w7.cell? ⟨p,3,O⟩=I (S (W,f) keys.length o):=(by rw[aA h3];rfl);have j6:=A h3;have h6:=A R;have r:=A E;obtain⟨vs,X⟩:∃vs,(dC keys).map (λk=>(a.drop (a.length-keys.length)).getD (keys.idxOf k) ew)=vs:=⟨_,rfl⟩;have j7:=A X;have g6:M (aGY w7 p W f o keys.length z vs 0 w7):=A ⟨dh _ _,_,h3,.nil _ _ _,λq e=>by cases e⟩;clear N h3 R E X;go_wp2;go_loopw [72] (λv wr=>∃j:Nat,v=Y Z j/\j<=keys.length/\M (aGY w7 p W f o keys.length z vs j wr)) (λv _=>keys.length-(bj v).toNat)
      case atStart=>exact⟨0,rfl,dr _,g6⟩
      case round=>
       obtain⟨j,rfl,p1,HJ⟩:=hrel;clear g6 h8 h7;by_cases hj:j<keys.length
       .obtain⟨E,IV,N,R,X⟩:=HJ.o;have i8:(dC keys).length=keys.length:=(fL keys).length_eq;obtain⟨k,B⟩:∃k,(dC keys)[j]?=I k:=⟨_,bf (by omega)⟩;have K:k∈keys:=(fL keys).mem_iff.1 (lx B);obtain⟨i,g4⟩:=List.mem_iff_getElem?.1 K;have h7:i<keys.length:=(bt.1 g4).1;obtain⟨x,hx⟩:∃x,(a.drop (a.length-keys.length))[i]?=I x:=⟨_,bf (by rw[i9.o];exact h7)⟩
        obtain⟨T,y,rfl⟩:∃T y,x=ai T y:=by
         have hd:=HT.o.M7 (a.length-keys.length);have P:i<(d.drop (a.length-keys.length)).length:=(by have:=hd.1;have:=i9.o;omega);exact(hd.2 i x _ hx (bf P)).O1
        have j8:vs[j]?=I (ai T y):=by
         rw[<-j7.o,ed,B];simp only[ng];rw[aEQ h4.o g4,List.getD_eq_getElem?_getD,hx];rfl
        have i2:=HT.o.M1 _ (ob (lx hx))
        have g6:Win 9 encS wr (S (W,f) keys.length o) (dC keys):=h6.o.A0 E (λq e hq=>by
         cases e;exact h6.o.ne j6.o (by decide) (congrArg I hq))
        have g7:=g6.S6 B;have l4:=k9.o.lt;have j9:=j1.o;have l5:=(o0.o.A0 (L (λ_=>False) h5.o) id).A0 r.o (show ¬m=W by omega);have l6:=l5.A0 E (show ¬m=p by have:=j5.o;omega);have i3:k.length<=aw:=(by have:=(g8.o k K).2;unfold aw;omega);have i4:=iD.X0 (w:=wr.drew) (fu l6) (aBb h4.o) i3 (i:=i) (by rw[List.reverse_reverse];exact g4);rcases l2.o with⟨p2,o2⟩|⟨gi,oi,ci,o9,l7,_⟩
        .rw[o2]at hx;cases hx
        simp only[fv]at l7;obtain⟨rfl,-,rfl⟩:=l7;have l8:=((l2.o.A0 (L (λ_=>False) h5.o) (λ_ _=>id)).A0 r.o (λq e hq=>by have:=(h0.o q e).2;omega)).A0 E (λq e hq=>by have:=(l3.o q e).2;have:=j5.o;omega);have p3:=l8.S6 hx;obtain⟨ia,ic,m0⟩:=R.A8;have k0:(vs.take j).length=j:=(by rw[el];have:=(bt.1 j8).1;omega);rw[k0]at m0;have h8:Keeps (λ_=>False) wr (wr.drew.alloc (h #[ai T y] 97)):=((dh _ wr).B0).A5 _;have k1:=(R.A0 h8 (λ_ _=>id)).Q3;rw[pr,k0]at k1
        have i5:∀j u,([ai T y]:List ae)[j]?=I u->(wr.drew.alloc (h #[ai T y] 97)).cell? ((⟨wr.heap.size,0,O⟩:au).add j)=I u:=by
         intro j u hj;have hp:=vO wr.heap.size j;rw[hp];show(wr.drew.alloc _).cell? ⟨wr.drew.heap.size,j,O⟩=_;rw[aA (aL wr.drew _)];simpa using hj
        have m1:∀u∈([ai T y]:List ae),u.oneCell'=J:=λu hu=>(by simp at hu;subst hu;exact i2);have m2:(j+1)*16<=140737488355328:=(by omega);have m3:j+1<=aw:=(by unfold aw;omega);subst m0;obtain⟨-,-,-,-,c4,-⟩:=cells5 N;have p4:(wr.alloc (h #[ai T y] 97)).cell? ⟨p,4,O⟩=I (S ia j ic):=((dh (λ_=>False) wr).A5 _).B6 c4 id;have g5:vs.take (j+1)=vs.take j++ [ai T y]:=(by rw[fa,j8];rfl);have h3:=lt_of_block j6.o;have m4:=A g5;have o3:=A k1;have m5:=A i5;have o4:=A m1;have o5:=A m2;have o6:=A m3;have m6:=A h8;have m7:=A E;have i6:=A X;have o7:=A (h8.B4 N id);have m8:=A (show(S ia j ic).ownBlock≠I p from λe=>by have:=X p e;omega);unfold encS at g7 i4;obtain⟨s,hs⟩:∃s:ByteArray,(⟨k.toArray⟩:ByteArray)=s:=⟨_,rfl⟩;rw[hs]at g7 i4;clear hs g5 k1 i5 m1 m2 m3 h8 E X N R l8 i3 l6 l5 l4 j9 g6 j8 B K hx k0 i2 i8 g4;go_wp2
        go_region_law (refine bP l9 rfl _ _ rfl rfl o3.o ⟨wr.heap.size,0,O⟩ 1 1 [ai T y] rfl rfl m5.o o4.o (by decide) o5.o o6.o ?_;intro g' h9 i0 w' g5 i2 K;have K:Keeps (λq=>(S ia j ic).ownBlock=I q) (wr.drew.alloc (h #[ai T y] 97)) w':=K;have g4:=K.B4 o7.o m8.o;have j8:=(cells5 g4).2.2.2.2.1;have j9:=free_at g4)
        all_goals
         have i3:=A g4;have h8:=A g5;have i5:=A i2;have i8:=A K;clear g4 g5 i2 K;go_wp2_with fail;have g4:Keeps (λk=>k=p) w' (w'.setCell ⟨p,4,O⟩ (S (g',h9) (j+1) i0)):=(dh (λk=>k=p) w').A3 (p:=⟨p,4,O⟩) (af rfl) _;have g5:=h8.o.ne i3.o (by decide);refine⟨⟨j+1,by go_num,by omega,A ⟨?_,_,aB i3.o _,?_,?_⟩⟩,by simp[bj];omega⟩
         .exact((m7.o.trans m6.o (λ_ a0=>a0.elim)).trans i8.o (λq e=>G (i6.o q e))).same g4
         .rw[m4.o];refine dq (n:=j+1) ?_;rw[pr];exact h8.o.A0 g4 (λk e B=>g5 (e.trans (congrArg I B)))
         .intro q e;cases e;rcases i5.o with a0|a0
          .exact i6.o _ a0
          .exact bo m7.o.size (bo m6.o.size a0.1)
       .have i5:j=keys.length:=(by omega);subst i5;obtain⟨E,IV,N,R,X⟩:=HJ.o;have i3:w.heap.size<=p:=(by have:=j2.o.size;have:=j5.o;omega);have i4:w.heap.size<=W:=bo j0.o.size j1.o.1;have K:Keeps (λ_=>False) w wr:=(((L (λ_=>False) j2.o).trans (L (λ_=>False) h5.o) (λ_ a0=>af a0)).trans r.o (λq e=>G (e▸i4))).trans E (λq e=>G (e▸i3));have i0:vs.take keys.length=vs:=List.take_of_length_le (by rw[<-j7.o,kt,(fL keys).length_eq];exact hU _);rw[i0]at R;have D:=mV (keys:=keys) (l:=d.drop (a.length-keys.length)) h4.o (by rw[ea];have:=HT.o.1;have:=g9.o;omega);rw[HZ.o]at D;have h7:=HT.o.1
        have g6:Win 9 encS wr (S (W,f) keys.length o) (dC keys):=h6.o.A0 E (λq e hq=>by
         cases e;exact h6.o.ne j6.o (by decide) (congrArg I hq))
        by_cases h8:z.B9=J
        .have HG:=A (lO wr b keys.length p z.g z.bytes z.h _ _ V a N rfl rfl rfl h8 (K.B4 H.o id) (HW.o.A0 K (λ_ _=>id)) (by omega) g9.o)
         have g5:∀w',jX wr b V a (a.length-keys.length) 187 (bh (I ⟨p,0,O⟩)) w'->tI w b V a d keys (ak (az #[])) w':=λw' h9=>G ⟨rfl,g9.o,by
          unfold po fZ;rw[py (by have:=g9.o;omega),<-h7,D,pz h8],by
          rw[D];exact⟨wr,p,_,IV,K.A6 (hU _) (λ_ a0=>a0.elim),i3,N,g6,λq e=>by cases e;exact i4,by rw[j7.o];exact R,λq e=>by have:=X q e;have:=r.o.size;have:=h5.o.size;have:=j2.o.size;omega,h9⟩⟩
         have i2:=A g5;clear g5 E N R X K i0 D g6;go_wp2_with fail;refine(HG.o).mono ?_;rintro e w8 ⟨rfl,h9⟩;have g5:=A h9;clear h9;go_wp2;go_end0;exact i2.o _ g5.o
        .have g5:=uY (bytes:=bD keys) (l:=(d.drop (a.length-keys.length)).map dv) (by intro z hz;obtain⟨t,ht,rfl⟩:=ni.1 hz;exact k3.o t (ob ht)) (by rw[kt,ea];omega) (by omega);rw[HZ.o]at g5;have HG:=A (sE wr b keys.length p z.g z.bytes z.h _ _ N rfl rfl rfl (by simpa using h8) g5.1 g5.2.1 g5.2.2)
         have h9:po d keys=d:=by
          unfold po fZ;rw[py (by have:=g9.o;omega),<-h7,D,py h8]
         have i6:=A h9;have i2:=A (K.A6 (hU _) (λ_ a0=>a0.elim));clear E N R X K i0 D g6 h9 g5;go_wp2_with fail;refine(HG.o).mono ?_;rintro e w8 ⟨rfl,D⟩;have E:=A (chain i2.o D);clear D;go_wp2_with fail;exact⟨rfl,af ⟨3,rfl,i6.o,E.o⟩⟩
def vC{s a:Nat}(b:aR s c=I a):a<=8:=by
 unfold aR at b
 repeat' (first|(split at b)|(cases b;decide)|cases b)
def aJR(a n c:Nat):Prop:=
 c<16^n/\n<=3/\(a=0->(n=2->¬(220<=c/\c<=223))/\(n=3->¬(220<=c/16/\c/16<=223)))/\
  (a≠0->(n=1->c=13)/\(n=2->220<=c/\c<=223)/\(n=3->220<=c/16/\c/16<=223))
structure Lx.Fine(x:Lx):Prop where
 a:x.a<=16777216
 b:x.b<=x.a
 number:x.number<=8
 e:x.e=decide (x.h≠dw)
 letter:x.h=.letter->x.number=0/\x.d≠ []/\x.d.length<(aH (x.d.headD 0)).length
 numeral:x.h=.numeral->x.d.length<=x.a
 text:dJ x.h=J->x.number=0/\x.f.length<=x.a/\aX [] x.f=I x.held
 c:dJ x.h=J->x.h≠dx->x.held= []
 low:x.h=dx\/x.h=.escape->x.g=0
 slash:x.h=.slash\/x.h=.letterU->55296<=x.g/\x.g<=56319
 f:x.h=.digit->x.f.length+x.c<=x.a/\aJR x.g x.c x.code/\(x.g=0\/(55296<=x.g/\x.g<=56319))
def qE:Tok->Prop
 | .str _ _ t=>aV t=J/\t.length<=16777216
 | .num _ _ b=>gO b
 | .mark _ s=>aY s=J
 | .term _ _ n=>n= [110,117,108,108]\/n= [116,114,117,101]\/n= [102,97,108,115,101]
def gH{x:Lx}(a:x.h=dw)(b:x.e=Q)(c:x.a<=16777216)(d:x.b<=x.a)(e:x.number<=8):x.Fine:=by
 refine⟨c,d,e,by rw[b,a];rfl,?_,?_,?_,?_,?_,?_,?_⟩<;>rw[a]
 .intro f;cases f
 .intro f;cases f
 .intro f;cases f
 .intro f;cases f
 .rintro(f|f)<;>cases f
 .rintro(f|f)<;>cases f
 .intro f;cases f
def aJS:Lx.E9.Fine:=gH rfl rfl (by decide) (by decide) (by decide)
def sO{x:Lx}(a:x.h=.numeral)(b:x.e=J)(c:x.a<=16777216)(e:x.b<=x.a)(f:x.number<=8)(d:x.d.length<=x.a):x.Fine:=by
 refine⟨c,e,f,by rw[b,a];rfl,?_,λ_=>d,?_,?_,?_,?_,?_⟩<;>rw[a]
 .intro g;cases g
 .intro g;cases g
 .intro g;cases g
 .rintro(g|g)<;>cases g
 .rintro(g|g)<;>cases g
 .intro g;cases g
def vD{x:Lx}(a:x.h=.letter)(b:x.e=J)(c:x.a<=16777216)(f:x.b<=x.a)(g:x.number=0)(e:x.d≠ [])(d:x.d.length<(aH (x.d.headD 0)).length):x.Fine:=by
 refine⟨c,f,by omega,by rw[b,a];rfl,λ_=>⟨g,e,d⟩,?_,?_,?_,?_,?_,?_⟩<;>rw[a]
 .intro i;cases i
 .intro i;cases i
 .intro i;cases i
 .rintro(i|i)<;>cases i
 .rintro(i|i)<;>cases i
 .intro i;cases i
def j5{x:Lx}(a:x.h=dx)(b:x.e=J)(c:x.a<=16777216)(f:x.b<=x.a)(i:x.number=0)(d:x.f.length<=x.a)(e:x.g=0)(g:aX [] x.f=I x.held):x.Fine:=by
 refine⟨c,f,by omega,by rw[b,a];rfl,?_,?_,λ_=>⟨i,d,g⟩,?_,λ_=>e,?_,?_⟩<;>rw[a]
 .intro j;cases j
 .intro j;cases j
 .intro _ j;exact absurd rfl j
 .rintro(j|j)<;>cases j
 .intro j;cases j
def aC7{x:Lx}(a:x.h=.escape)(b:x.e=J)(c:x.a<=16777216)(g:x.b<=x.a)(j:x.number=0)(e:x.f.length<=x.a)(f:x.g=0)(i:aX [] x.f=I x.held)(d:x.held= []):x.Fine:=by
 refine⟨c,g,by omega,by rw[b,a];rfl,?_,?_,λ_=>⟨j,e,i⟩,λ_ _=>d,λ_=>f,?_,?_⟩<;>rw[a]
 .intro k;cases k
 .intro k;cases k
 .rintro(k|k)<;>cases k
 .intro k;cases k
def xY{x:Lx}(a:x.h=.slash\/x.h=.letterU)(b:x.e=J)(c:x.a<=16777216)(g:x.b<=x.a)(j:x.number=0)(e:x.f.length<=x.a)(f:55296<=x.g/\x.g<=56319)(i:aX [] x.f=I x.held)(d:x.held= []):x.Fine:=by
 refine⟨c,g,by omega,by rcases a with k|k<;>rw[b,k]<;>rfl,?_,?_,λ_=>⟨j,e,i⟩,λ_ _=>d,?_,λ_=>f,?_⟩<;>rcases a with a|a<;>rw[a]
 .intro k;cases k
 .intro k;cases k
 .intro k;cases k
 .intro k;cases k
 .rintro(k|k)<;>cases k
 .rintro(k|k)<;>cases k
 .intro k;cases k
 .intro k;cases k
def qS{x:Lx}(a:x.h=.digit)(b:x.e=J)(c:x.a<=16777216)(i:x.b<=x.a)(k:x.number=0)(f:x.f.length+x.c<=x.a)(g:x.g=0\/(55296<=x.g/\x.g<=56319))(d:aJR x.g x.c x.code)(j:aX [] x.f=I x.held)(e:x.held= []):x.Fine:=by
 refine⟨c,i,by omega,by rw[b,a];rfl,?_,?_,λ_=>⟨k,by omega,j⟩,λ_ _=>e,?_,?_,λ_=>⟨f,d,g⟩⟩<;>rw[a]
 .intro l;cases l
 .intro l;cases l
 .rintro(l|l)<;>cases l
 .rintro(l|l)<;>cases l
def mB{x:Lx}(f:x.h=dw)(i:x.e=Q)(l:x.a<16777216)(n:x.b<=x.a)(a:x.number<=8)(c:UInt8):
 ((aP x c).b=0->Lx.Fine {(aP x c).c with a:=x.a+1})/\∀t∈(aP x c).a,qE t:=by
 unfold aP;by_cases e:aI c=J
 .rw[pz e];exact⟨λ_=>gH f i (by simp;omega) (by simp;omega) a,λt b=>by simp at b⟩
 rw[py e];simp only[];by_cases g:aY c=J
 .rw[pz g];exact⟨λ_=>gH rfl rfl (by simp;omega) (by simp[bk]) (by simp[bk]),λt b=>by simp at b;subst b;exact g⟩
 rw[py g];by_cases k:c=34
 .rw[pz k];exact⟨λ_=>j5 rfl rfl (by simp;omega) (by simp) rfl (by simp) rfl rfl,λt b=>by simp at b⟩
 rw[py k];by_cases a:c=45\/isD c=J
 .rw[pz a];unfold kX;cases j:aR 0 c with
  | none=>exact⟨λo=>by simp at o,λt b=>by simp at b⟩
  | some m=>exact⟨λ_=>sO rfl rfl (by simp;omega) (by simp) (vC j) (by simp),λt b=>by simp at b⟩
 rw[py a];by_cases d:aH c≠ []
 .rw[pz d];refine⟨λ_=>vD rfl rfl (by simp;omega) (by simp) rfl (by simp) ?_,λt b=>by simp at b⟩;show 1<(aH c).length;unfold aH at d⊢;split at d
  .rename_i o;rw[pz o];decide
  .rename_i o;rw[py o];split at d
   .rename_i o;rw[pz o];decide
   .rename_i o;rw[py o];split at d
    .rename_i o;rw[pz o];decide
    .exact absurd rfl d
 rw[py d];exact⟨λo=>by simp at o,λt b=>by simp at b⟩
def aBH(d:cO c=I b):aO [] b=I []:=by
 have:b.toNat<128:=by
  unfold cO at d;split at d
  .rename_i a;cases d;rcases a with rfl|rfl|rfl<;>decide
  .repeat' (first|(split at d)|(cases d;decide)|cases d)
 unfold aO aC;simp[this]
def aE3(d:n<(aH c).length):aH c= [110,117,108,108]\/aH c= [116,114,117,101]\/aH c= [102,97,108,115,101]:=by
 unfold aH at d⊢;split
 .exact af rfl
 .rename_i g1;rw[py g1]at d;split
  .exact G (af rfl)
  .rename_i a;rw[py a]at d;split
   .exact G (G rfl)
   .rename_i b;rw[py b]at d;simp at d
def aHB{x:Lx}(u:x.Fine)(T:x.a<16777216)(c:UInt8):((x.B5 c).b=0->Lx.Fine {(x.B5 c).c with a:=x.a+1})/\∀t∈(x.B5 c).a,qE t:=by
 have d:=u;cases a:x.h with
 | outside=>
  have q:x.B5 c=aP x c:=by unfold ar;rw[a]
  rw[q];exact mB a (by rw[d.e,a];rfl) T d.b d.number c
 | numeral=>
  have q:x.B5 c=bX x c:=by unfold ar;rw[a]
  rw[q];have g:x.e=J:=by rw[d.e,a];rfl
  have j:=d.numeral a;unfold bX;cases i:aR x.number c with
  | some f=>exact⟨λ_=>sO a g (by simp;omega) (by have:=d.b;simp;omega) (vC i) (by simp;omega),λt e=>by simp at e⟩
  | none=>
   simp only[];by_cases f:bL x.number=J
   .rw[pz f];unfold fh;cases H:bitsOf x.d with
    | none=>exact⟨λu=>by simp at u,λt e=>by simp at e⟩
    | some v=>
     simp only[ng];obtain⟨s,o⟩:=mB (x:=x.F4) rfl rfl T d.b d.number c;refine⟨s,λt e=>?_⟩;rcases ma.1 e with rfl|e
     .exact l0 H
     .exact o t e
   .rw[py f];exact⟨λu=>by simp at u,λt e=>by simp at e⟩
 | letter=>
  have q:x.B5 c=cP x c:=by unfold ar;rw[a]
  rw[q];have g:x.e=J:=by rw[d.e,a];rfl
  obtain⟨j,i,f⟩:=d.letter a;unfold cP;simp only[];by_cases k:(aH (x.d.headD 0))[x.d.length]?=I c
  .rw[pz k];by_cases w:x.d.length+1=(aH (x.d.headD 0)).length
   .rw[pz w];refine⟨λ_=>gH rfl rfl (by simp;omega) (by have:=d.b;simp[bk];omega) (by simp[bk,j]),λt e=>?_⟩;rw[fk]at e;subst e;exact aE3 f
   .rw[py w];refine⟨λ_=>vD a g (by simp;omega) (by have:=d.b;simp;omega) j (by simp) ?_,λt e=>by simp at e⟩;cases D:x.d with
    | nil=>exact absurd D i
    | cons r l=>
     rw[D]at f w;simp only[fm,cv]at f w;simp only[List.cons_append,fm,cv,cn,List.length_nil];omega
  .rw[py k];exact⟨λu=>by simp at u,λt e=>by simp at e⟩
 | within=>
  have q:x.B5 c=bY x c:=by unfold ar;rw[a]
  rw[q];have g:x.e=J:=by rw[d.e,a];rfl
  have f:=(d.text (by rw[a];rfl)).1;have l:=(d.text (by rw[a];rfl)).2.1;have k:=d.low (af a);have i:=(d.text (by rw[a];rfl)).2.2;unfold bY;by_cases s:x.held= []/\c=34
  .rw[pz s];refine⟨λ_=>gH rfl rfl (by simp;omega) (by have:=d.b;simp[bk];omega) (by simp[bk,f]),λt e=>?_⟩;simp at e;subst e;refine⟨?_,by omega⟩;unfold aV;rw[i,s.1];rfl
  rw[py s];by_cases o:x.held= []/\c=92
  .rw[pz o];exact⟨λ_=>aC7 rfl g (by simp;omega) (by have:=d.b;simp;omega) f (by simp;omega) k i o.1,λt e=>by simp at e⟩
  rw[py o];by_cases E:x.held= []/\c.toNat<32
  .rw[pz E];exact⟨λu=>by simp at u,λt e=>by simp at e⟩
  rw[py E];cases j:aO x.held c with
  | none=>exact⟨λu=>by simp at u,λt e=>by simp at e⟩
  | some m=>
   refine⟨λ_=>j5 a g (by simp;omega) (by have:=d.b;simp;omega) f (by simp;omega) k ?_,λt e=>by simp at e⟩;show aX [] (x.f++ [c])=I m;rw[gA,i];show aX x.held [c]=_;rw[cD,j];rfl
 | escape=>
  have q:x.B5 c=dN x c:=by unfold ar;rw[a]
  rw[q];have g:x.e=J:=by rw[d.e,a];rfl
  have f:=(d.text (by rw[a];rfl)).1;have l:=(d.text (by rw[a];rfl)).2.1;have k:=d.low (G a);have i:=(d.text (by rw[a];rfl)).2.2;have j:=d.c (by rw[a];rfl) (by rw[a];decide);unfold dN;by_cases s:c=117
  .rw[pz s];refine⟨λ_=>qS rfl g (by simp;omega) (by have:=d.b;simp;omega) f ?_ (af k) ?_ i j,λt e=>by simp at e⟩
   .show x.f.length+0<=x.a+1;omega
   .exact⟨by simp,by simp,by simp,by simp⟩
  rw[py s];cases m:cO c with
  | none=>exact⟨λu=>by simp at u,λt e=>by simp at e⟩
  | some b=>
   refine⟨λ_=>j5 rfl g (by simp;omega) (by have:=d.b;simp;omega) f (by simp;omega) k ?_,λt e=>by simp at e⟩;show aX [] (x.f++ [b])=I x.held;rw[gA,i,j];show aX [] [b]=_;rw[cD,aBH m];rfl
 | slash=>
  have q:x.B5 c=fD x c:=by unfold ar;rw[a]
  rw[q];have g:x.e=J:=by rw[d.e,a];rfl
  have f:=(d.text (by rw[a];rfl)).1;have w:=(d.text (by rw[a];rfl)).2.1;have y:=d.slash (af a);unfold fD;split
  .exact⟨λ_=>xY (G rfl) g (by simp;omega) (by have:=d.b;simp;omega) f (by simp;omega) y (d.text (by rw[a];rfl)).2.2 (d.c (by rw[a];rfl) (by rw[a];decide)),λt e=>by simp at e⟩
  .exact⟨λu=>by simp at u,λt e=>by simp at e⟩
 | letterU=>
  have q:x.B5 c=dS x c:=by unfold ar;rw[a]
  rw[q];have g:x.e=J:=by rw[d.e,a];rfl
  have f:=(d.text (by rw[a];rfl)).1;have w:=(d.text (by rw[a];rfl)).2.1;have y:=d.slash (G a);unfold dS;split
  .refine⟨λ_=>qS rfl g (by simp;omega) (by have:=d.b;simp;omega) f ?_ (G y) ?_ (d.text (by rw[a];rfl)).2.2 (d.c (by rw[a];rfl) (by rw[a];decide)),λt e=>by simp at e⟩
   .show x.f.length+0<=x.a+1;omega
   .exact⟨by simp,by simp,by simp,by simp⟩
  .exact⟨λu=>by simp at u,λt e=>by simp at e⟩
 | digit=>
  have q:x.B5 c=dH x c:=by unfold ar;rw[a]
  rw[q];have g:x.e=J:=by rw[d.e,a];rfl
  have f:=(d.text (by rw[a];rfl)).1;have i:=(d.text (by rw[a];rfl)).2.2;have j:=d.c (by rw[a];rfl) (by rw[a];decide);obtain⟨w,⟨l,X,V,z⟩,K⟩:=d.f a;unfold dH;cases hv:hexOf c with
  | none=>exact⟨λu=>by by_cases p:x.g=0<;>simp[p]at u,λt e=>by simp at e⟩
  | some v=>
   have W:=sL hv;simp only[];by_cases m:x.O0 v=J
   .rw[pz m];exact⟨λu=>by simp at u,λt e=>by simp at e⟩
   rw[py m];refine⟨λ_=>?_,λt e=>by simp at e⟩;have n:x.code*16+v<16^(x.c+1):=by rw[Nat.pow_succ];omega
   have B:(x.g≠0->x.c=0->v=13)/\(x.g≠0->x.c=1->12<=v)/\(x.g=0->x.c=1->x.code=13->v<12):=by
    unfold Lx.O0 at m;refine⟨λs o=>?_,λs o=>?_,λs o E=>?_⟩
    .rw[pz ⟨s,o⟩]at m;simpa using m
    .rw[py,pz ⟨s,o⟩]at m;simp at m;omega
    .rw[py,py]at m;simp[s,o,E]at m;omega
   obtain⟨l1,l2,l3⟩:=B
   have k:(x.g=0->(x.c+1=2->¬(220<=x.code*16+v/\x.code*16+v<=223))/\(x.c+1=3->¬(220<=(x.code*16+v)/16/\(x.code*16+v)/16<=223))/\(x.c+1=4->¬(56320<=x.code*16+v/\x.code*16+v<=57343)))/\
    (x.g≠0->(x.c+1=1->x.code*16+v=13)/\(x.c+1=2->220<=x.code*16+v/\x.code*16+v<=223)/\(x.c+1=3->220<=(x.code*16+v)/16/\(x.code*16+v)/16<=223)/\(x.c+1=4->56320<=x.code*16+v/\x.code*16+v<=57343)):=by
    refine⟨λp=>⟨λo=>?_,λo=>?_,λo=>?_⟩,λp=>⟨λo=>?_,λo=>?_,λo=>?_,λo=>?_⟩⟩
    .have:=l3 p (by omega);have s:x.code<16^1:=(by rw[show x.c=1 by omega]at l;exact l);by_cases D:x.code=13
     .have:=this D;omega
     .omega
    .have:=(V p).1 (by omega);omega
    .have:=(V p).2 (by omega);omega
    .have s:x.code<16^0:=(by rw[show x.c=0 by omega]at l;exact l);have:=l1 p (by omega);omega
    .have:=(z p).1 (by omega);have:=l2 p (by omega);omega
    .have:=(z p).2.1 (by omega);omega
    .have:=(z p).2.2 (by omega);omega
   by_cases D:x.c+1=4
   .rw[pz D];have N:x.code*16+v<65536:=(by rw[D]at n;exact n);unfold Lx.whole;simp only[];by_cases y:x.g≠0
    .rw[pz y];have H:=(k.2 y).2.2.2 D;have F:55296<=x.g/\x.g<=56319:=(by omega);refine j5 rfl g (by simp;omega) (by have:=d.b;simp;omega) f ?_ rfl ?_
     .obtain⟨R,E⟩:∃R,aT (65536+(x.g-55296)*1024+(x.code*16+v)-56320)=R:=⟨_,rfl⟩;have:=(fS (65536+(x.g-55296)*1024+(x.code*16+v)-56320)).2.1;rw[E]at this⊢;rw[cn];show _<=x.a+1;omega
     .show aX [] (x.f++_)=I x.held;have s:fM (65536+(x.g-55296)*1024+(x.code*16+v)-56320):=G (by omega);have o:=nJ s;obtain⟨R,E⟩:∃R,aT (65536+(x.g-55296)*1024+(x.code*16+v)-56320)=R:=⟨_,rfl⟩;rw[E]at o⊢;rw[gA,i,j];exact o
    .rw[py y];have F:x.g=0:=(by omega);have H:=(k.1 F).2.2 D;by_cases P:55296<=x.code*16+v/\x.code*16+v<=56319
     .rw[pz P];exact xY (af rfl) g (by simp;omega) (by have:=d.b;simp;omega) f (by simp;omega) P i j
     .rw[py P];refine j5 rfl g (by simp;omega) (by have:=d.b;simp;omega) f ?_ F ?_
      .have:=(fS (x.code*16+v)).2.2 N;simp;omega
      .show aX [] (x.f++_)=I x.held;have s:fM (x.code*16+v):=(by unfold fM;omega);have o:=nJ s;obtain⟨R,E⟩:∃R,aT (x.code*16+v)=R:=⟨_,rfl⟩;rw[E]at o⊢;rw[gA,i,j];exact o
   .rw[py D];refine qS a g (by simp;omega) (by have:=d.b;simp;omega) f (by simp;omega) K ?_ i j;refine⟨n,by simp;omega,λp=>⟨(k.1 p).1,(k.1 p).2.1⟩,λp=>⟨(k.2 p).1,(k.2 p).2.1,(k.2 p).2.2.1⟩⟩
def aAU{x:Lx}(g:x.Fine)(c:UInt8):((x.B3 c).2.2.1=0->(x.B3 c).1.Fine)/\∀t∈(x.B3 c).2.1,qE t:=by
 unfold Lx.B3;by_cases b:x.a=16777216
 .rw[pz b];exact⟨λg=>by simp at g,λt f=>by simp at f⟩
 rw[py b];simp only[];obtain⟨e,d⟩:=aHB g (by have:=g.a;omega) c;by_cases a:(x.B5 c).b=0
 .rw[pz a];exact⟨λ_=>e a,d⟩
 .rw[py a];exact⟨λg=>absurd g a,d⟩
def qT{x:Lx}:∀t∈x.C0.2.1,qE t:=by
 unfold Lx.C0;split
 .intro t a;simp at a
 .split
  .intro t a;simp at a
  .unfold fh;cases b:bitsOf x.d with
   | none=>intro t a;simp at a
   | some v=>intro t a;simp at a;subst a;exact l0 b
def mI:dC []= []:=List.perm_nil.1 (fL [])
def vQ(l:List Tr):besides [] l= []:=by unfold besides;rw[mI];rfl
def zG:(cw [] []).A9=⟨1,0,1⟩:=by rw[hZ];rfl
def zH(w:U):ah ag 164 #[()] w λe w'=>e=ak (S O 0 0)/\w'=w:=by
 have d:∀(w:U)(a:Option au)(n c n' b:Nat),(binOp .eql 32 (S a n c) (S O n' b)).run ag w=.ok (cj a.isNone) w:=λw a n c n' b=>dp w _ _ a n c n' b cg;go_enter co,cr;go_wp2_with fail;exact bb (v:=S O 0 0) (by simp[bp,ct,go_sem]) rfl ⟨rfl,rfl⟩
def aFP(w:U)(F:Nat->Prop)(b:Nat)(V:ae)(a:List ae)(c:List Tr)(a0:w.heap[b]?=I (h #[V] 195 (0,0)))(d:Win 97 id w V a)(f:eF F w a c)(g:∀t∈c,t.A9.B9=J)(hl:c.length<=65536):
 ah ag 222 #[bh b,()] w λe w'=>tI w b V a c [] e w':=by
 have H:=A a0;have HW:=A d;have D:=f.1;have E:=A (λw1(hb:aj w w w1)=>wK w1 b 0 V a (keep a0 hb) (d.A0 (L (λ_=>False) hb) (λ_ _=>id)) (by omega) f.M1 (dr _));clear a0 d f g;have K:=vP w;have N:=A ((dk w w).alloc (hU _) (bu #[] 0));obtain⟨B,d⟩:∃B,w.alloc (bu #[] 0)=B:=⟨_,rfl⟩;rw[d]at K N;clear d;go_enter func222,ntmps222;go_wp2;go_loopw [18] (λv wr=>v=Y Z 0/\wr=w) (λ_ _=>0)
 case atStart=>exact⟨rfl,rfl⟩
 case round=>
  obtain⟨rfl,d⟩:=hrel;rw[d];clear d;go_wp2;go_loopw [7,29] (λy v wr=>y=Y Z 0/\v=Y Z 0/\wr=B) (λ_ _ _=>0)
  case atStart=>exact⟨rfl,rfl,rfl⟩
  case round=>
   obtain⟨rfl,rfl,d⟩:=hrel;rw[d];clear d;go_wp2_with fail;refine(E.o B N.o).mono ?_;rintro e w3 ⟨k,rfl,f,l,g⟩;have j:a.drop (a.length-0)= []:=(by rw[Nat.sub_zero,List.drop_length]);rw[j]at f;obtain⟨ta,tc,P⟩:=f.A8;have R:=A (chain N.o g);have g0:=A f;have HS:=A (mT F w3 k [] [] 0 f ⟨rfl,λi v t a0=>by simp at a0⟩ (λt m=>by simp at m) (by simp) (by decide));subst P;clear f l g j;go_wp2_with fail;refine(HS.o).mono ?_;rintro e w4 ⟨rfl,f⟩;have u:=A (chain R.o f);rw[show szV (fY 0 (([]:List Tr).map dv))=.agg #[Y Z (1:Nat),Y Z (0:Nat),Y Z (1:Nat)]from rfl];clear f;go_wp2_with fail;refine(zH w4).mono ?_;rintro e x ⟨rfl,rfl⟩;obtain⟨p,T⟩:∃p,x.heap.size=p:=⟨_,rfl⟩;obtain⟨j,n⟩:∃j,x.alloc (h #[Y Z 1,Y Z 0,Y Z 1,(),()] 189)=j:=⟨_,rfl⟩;have z:aj x x j:=(by rw[<-n];exact(dk _ _).alloc (hU _) _);have f:j.heap[p]?=I (h #[Y Z 1,Y Z 0,Y Z 1,(),()] 189 (0,0)):=(by rw[<-n,<-T];exact aL x _);have W:=A f;have r:=A (chain u.o z);have X:=A (show w.heap.size<=p by rw[<-T];exact u.o.size);have g1:j.cell? ⟨p,3,O⟩=I (S O 0 0):=(by rw[aA f];rfl);have g2:∀o,j.frozen? ⟨p,o,O⟩=Q:=free_at f;have HG:=A (lO j b 0 p 1 0 1 _ _ V a f rfl rfl rfl (by decide) ((L (λ_=>False) r.o).B4 H.o id) (HW.o.A0 (L (λ_=>False) r.o) (λ_ _=>id)) (by omega) (dr _))
   have g:∀w',jX j b V a (a.length-0) 187 (bh (I ⟨p,0,O⟩)) w'->tI w b V a c [] (ak (az #[])) w':=λw' l=>G ⟨rfl,dr _,by
    have h0:(cw (dC []) (besides [] (c.drop (c.length-0)))).A9.B9=J:=(by rw[mI,vQ,zG];rfl);have s:([]:List Oo).length=0:=rfl;unfold po fZ;rw[s,py (Nat.not_lt_zero _),pz h0,D],by
    rw[mI,vQ,zG];exact⟨j,p,S O 0 0,S O 0 0,r.o,X.o,W.o,by rw[mI];exact .nil _ _ _,λq e=>(by cases e),by rw[mI];exact .nil _ _ _,λq e=>(by cases e),l⟩⟩
   have s:=A g;clear f z g;go_wp2_with fail;(try rw[n]);refine(aJZ j).mono ?_;rintro e f ⟨rfl,rfl⟩
   (try rw[T]);go_wp2
   go_loopw [72] (λv wr=>v=Y Z 0/\wr=f) (λ_ _=>0)
   case atStart=>exact⟨rfl,rfl⟩
   case round=>
    obtain⟨rfl,d⟩:=hrel;rw[d];clear d;go_wp2_with fail;refine(HG.o).mono ?_;rintro e g ⟨rfl,l⟩;have d:=A l;clear l;go_wp2;go_end0;exact s.o _ d.o
def aFQ(w:U)(F:Nat->Prop)(b:Nat)(o:ae)(V:ae)(c:List ae)(a:List Tr)(keys:List Oo)(z:w.heap[b]?=I (h #[V] 195 (0,0)))(q:Win 97 id w V c)(p:eF F w c a)(d:∀t∈a,t.A9.B9=J)(r:a.length<=65536)
 (k:Win 9 encS w o keys)(u:keys= []->o=S O 0 0)(l:bK keys)(n:keys.Nodup)(j:bD keys<=2097152)(i:keys.length<=4194304):
 ah ag 222 #[bh b,o] w λe w'=>tI w b V c a keys e w':=by
 by_cases f:keys= []
 .rw[u f,f];exact aFP w F b V c a z q p d r
 .rcases k with⟨_,e⟩|⟨g,off,cap,m,rfl,s,y,v,x,hi⟩
  .exact absurd e f
  .exact aDP w F b g off cap V c a keys z q p d r (G ⟨g,off,cap,m,rfl,s,y,v,x,hi⟩) l n j i f
section
def aH1(c:UInt8)(t:Oo):bO (c::t)=(c.toNat-48)*10^t.length+bO t:=by
 have:=jV [c] t;simpa[bO]using this
def kK(a:isD c=J):48<=c.toNat/\c.toNat<=57:=by unfold isD at a;simpa using a
def yS(a:Oo)(e:Int):((bG a).length:Int)+eD a e=a.length+e:=by
 unfold bG eD;by_cases b:800<a.length
 .rw[pz b,pz b,cn,el,Nat.min_eq_left (by omega)];simp;omega
 .rw[py b,py b]
def aDy{a:Oo}(b:a≠ []):∃c t u,a=c::t/\bG a=c::u:=by
 cases a with
 | nil=>exact absurd rfl b
 | cons c t=>
  unfold bG;split
  .exact⟨c,t,_,rfl,rfl⟩
  .exact⟨c,t,_,rfl,rfl⟩
def aFs{b:Oo}(d:∀c∈b,isD c=J):∀c∈bG b,c.toNat<=57:=by
 unfold bG;intro c a;split at a
 .rcases List.mem_append.1 a with a|a
  .exact(kK (d c (List.mem_of_mem_take a))).2
  .simp at a;subst a;decide
 .exact(kK (d c a)).2
section
variable {d:Dml} {f:Nat}
def gC.Q5(a:gC d)(j:d.c≠ []):∃n:Nat,(n:Int)+1+eD d.c d.b=fJ d/\10^n<=bO (bG d.c)/\bO (bG d.c)<10^(n+1):=by
 obtain⟨c,t,u,f,k⟩:=aDy j;have g:=yS d.c d.b;have b:=aFs a.f;rw[k]at g b⊢;refine⟨u.length,?_,?_,?_⟩
 .unfold fJ;rw[<-g,cv];omega
 .rw[aH1];have l:=kK (a.f c (by rw[f];simp));have i:=a.first c t f;have m:c.toNat≠48:=λe=>i (kb e);have:1*10^u.length<=(c.toNat-48)*10^u.length:=ev _ (by omega);omega
 .exact kH b
def aGS(c:gC d)(b:d.c≠ []):0<numOf d:=by
 obtain⟨e,_,a,_⟩:=c.Q5 b;unfold numOf;exact nc (a7 (mF (by decide)) a) (mF (by decide))
def aH2(c:gC d)(b:d.c≠ [])(g:310<fJ d):∃B,2^1024<=B/\B*fI d<=numOf d:=by
 obtain⟨z,f⟩:∃z,z=310:=⟨_,rfl⟩;refine⟨10^z,by subst f;decide+kernel,?_⟩;obtain⟨i,e,a,_⟩:=c.Q5 b;unfold numOf fI;refine bo ?_ (ev _ a);rw[<-ld,<-ld];exact ju (by decide) (by omega)
def aH3(f:gC d)(b:d.c≠ [])(g:fJ d< -330):numOf d*10^331<fI d:=
 (show ∀z,z=331->numOf d*10^z<fI d from λz i=>by
 obtain⟨j,e,_,c⟩:=f.Q5 b;unfold numOf fI;have a:0<10^(eD d.c d.b).toNat*10^z:=nc (mF (by decide)) (mF (by decide));rw[Nat.mul_assoc];refine a7 (Nat.mul_lt_mul_of_pos_right c a) ?_;rw[<-ld,<-ld];exact ju (by decide) (by omega)) 331 rfl
def aAl:2^1075<=10^331:=by decide+kernel
def l8(a:f=0)(b:lE d f= -1):gB d f=I 0:=by
 subst a;have c:rC d 0=0:=by unfold rC;rw[b,py]
 unfold gB;rw[c,py,py]
def oV:fN 0=0/\nN 0=0:=by constructor<;>decide
def aH4(r:gC d)(g:nC d f):gB d f=cF d:=by
 by_cases a:d.c= []
 .
  have b:bQ d=⟨0,0,J⟩:=by unfold bQ;rw[pz a]
  have j:fN f=0:=by
   have:=g.low;unfold aW at this;rw[pz (af a),py (by simp[a])]at this;split at this<;>omega
  have e:f=0:=uL (by have:=g.le;unfold aM at this;omega) j
  have s:lE d f= -1:=by
   unfold lE aW;rw[pz (af a),py (by simp[a]),pz]
  rw[l8 e s];unfold cF;rw[b];have:cC ⟨0,0,J⟩=0:=rfl;rw[this,py,py]
 .by_cases l:310<fJ d
  .have b:bQ d=⟨aM,1,Q⟩:=by
    unfold bQ;unfold fJ at l;rw[py a,pz l]
   have n:cF d=O:=by
    unfold cF;rw[b];have:cC ⟨aM,1,Q⟩=aM+1:=rfl;rw[this,pz]
   rw[n];by_cases o:320<fJ d
   .have i:∀m k,aW d m k=1:=by
     intro m k;unfold aW;by_cases j:m=0
     .rw[pz (G j),pz a]
     .rw[py (by simp[a,j]),pz o]
    have p:f=aM:=by
     refine g.g.resolve_right ?_;rw[i];omega
    have q:rC d aM=aM+1:=(by unfold rC lE;rw[i,pz (af (by decide))]);unfold gB;rw[p,q,pz]
   .refine g.U1 a (by omega) (by omega) ?_;obtain⟨z,e,p⟩:=aH2 r a l;have e:= @aMq (fI d) (numOf d) z 1024 2046 1074 rfl e p;exact e
  .by_cases o:fJ d< -330
   .have b:bQ d=⟨0,-1,Q⟩:=by
     unfold bQ;unfold fJ at l o;rw[py a,py l,pz o]
    have n:cF d=I 0:=by
     unfold cF;rw[b];have:cC ⟨0,-1,Q⟩=0:=rfl;rw[this,py,py]
    rw[n];by_cases p:fJ d< -340
    .have i:∀m k,m≠0->aW d m k= -1:=by
      intro m k j;unfold aW;rw[py (by simp[a,j]),py,pz p]
     have e:f=0:=by
      have:=g.low;by_cases j:fN f=0
      .exact uL (by have:=g.le;unfold aM at this;omega) j
      .rw[i _ _ j]at this;omega
     exact l8 e (i _ _ (by omega))
    .have q:=aH3 r a o;have i:numOf d*2^1075<fI d:=Nat.lt_of_le_of_lt (Nat.mul_le_mul_left _ aAl) q
     have e:f=0:=by
      obtain⟨j,_⟩:=g.Q4 a (by omega) (by omega);rcases Nat.eq_zero_or_pos f with t|t
      .exact t
      .exfalso;have v:iQ 0<iQ f:=aGJ t (by have:=g.le;unfold aM at this;omega);have w:1*fI d<=iQ f*fI d:=ev _ (by omega);have u:numOf d*2^1075=2*(numOf d*2^1074):= @dbl (numOf d) 1074 1075 rfl;rw[u]at i;generalize numOf d*2^1074=x at*;omega
     refine l8 e ?_;rw[oU a (by omega) (by omega),e,oV.1,oV.2];refine aH0 ?_;rw[show(2*0+1)*2^0*fI d=fI d by simp];exact i
   .
    have b:=aDx a (by omega) (by omega);obtain⟨j,t⟩:=g.Q4 a (by omega) (by omega);rcases aHZ (aGS r a) (aGR d)with⟨i,K,B,p,u,x,y⟩|⟨q,i,w⟩
    .have n:cF d=O:=by
      unfold cF;rw[b,i];have:cC ⟨aM,1,Q⟩=aM+1:=rfl;rw[this,pz]
     have v:2046<=K:=(by unfold aM at p;omega);have e:= @aMp K B (fI d) (numOf d*2^1074) 2046 v u y;rw[n];exact g.U1 a (by omega) (by omega) e
    .obtain⟨c,n⟩:∃c,bH (numOf d) (fI d)=c:=⟨_,rfl⟩;rw[n]at q i w b;have e:f=c.bits:=aHw (N:=numOf d*2^1074) (D:=fI d) g.le q j t i.low (G i.g);have s:lE d f=c.a:=by rw[oU a (by omega) (by omega),e];exact i.half
     have v:cC c=rC d f:=by
      rw[aLv w (by rw[<-i.half];exact aFr _ _)];unfold rC;rw[s,e]
     unfold gB cF;rw[b,v]
end
end
structure mX where
 c:UInt8
 a:List UInt8
 X:List UInt8
def mX.Ok(x:mX):Prop:=(x.c=101\/x.c=69)/\(x.a= []\/x.a= [43]\/x.a= [45])/\x.X≠ []/\∀d∈x.X,isD d=J
def pL:Option (List UInt8)->List UInt8
 | none=> []
 | some F=>46::F
def eL:Option mX->List UInt8
 | none=> []
 | some x=>x.c::(x.a++x.X)
structure aJv(l W:List UInt8)(P:Option (List UInt8))(E:Option mX):Prop where
 is:l=W++(pL P++eL E)
 ne:W≠ []
 f:∀d∈W,isD d=J
 b:W= [48]\/∀t,W≠48::t
 c:∀F,P=I F->F≠ []/\∀d∈F,isD d=J
 a:∀x,E=I x->x.Ok
def aAN(l:List UInt8)(neg:Bool)(W:List UInt8)(P:Option (List UInt8))(E:Option mX):Prop:=∃u,l=(if neg then 45::u else u)/\aJv u W P E
def pW:Option mX->Int
 | none=>0
 | some x=>if x.a= [45]then -(fH x.X:Int)else fH x.X
def j3(neg:Bool)(W:List UInt8)(P:Option (List UInt8))(E:Option mX):Dml:=cB neg (W++P.getD []) (pW E-(P.getD []).length)
def qQ(l:Oo):l.take (over l)=l.takeWhile isD/\l.drop (over l)=l.dropWhile isD:=by
 unfold over;have e:=List.takeWhile_append_dropWhile (p:=isD) (l:=l);constructor
 .conv=>lhs;arg 2;rw[<-e]
  exact List.take_left
 .conv=>lhs;arg 2;rw[<-e]
  exact List.drop_left
def xN(a:bR l=J):l.takeWhile isD≠ []:=by
 cases l with
 | nil=>cases a
 | cons c t=>
  have a:isD c=J:=a;rw[oj,pz a];exact List.cons_ne_nil _ _
def tY(l:Oo):∀c∈l.takeWhile isD,isD c=J:=by
 induction l with
 | nil=>intro c d;cases d
 | cons x l a=>
  intro c d;rw[oj]at d;split at d
  .rename_i b;rcases ma.1 d with rfl|d
   .exact b
   .exact a c d
  .cases d
def aEV(t:Oo):t.take (iC t)= []\/t.take (iC t)= [43]\/t.take (iC t)= [45]:=by
 cases t with
 | nil=>exact af rfl
 | cons d t=>
  unfold iC;simp only;by_cases a:d=43\/d=45
  .rw[pz a];rcases a with rfl|rfl
   .exact G (af rfl)
   .exact G (G rfl)
  .rw[py a];exact af rfl
def xO(n m:Nat)(l:Oo)(d:jA n l=(m,J)):n<=m/\∃E,l.take (m-n)=eL E/\∀x,E=I x->x.Ok:=by
 cases l with
 | nil=>
  unfold jA at d;simp only[ov,and_true]at d;subst d;exact⟨hU _,O,by simp[eL],λx e=>by cases e⟩
 | cons c t=>
  unfold jA at d;simp only at d;by_cases b:c=101\/c=69
  .rw[pz b]at d;by_cases a:bR (t.drop (iC t))=J
   .rw[pz a]at d;simp only[ov,and_true]at d;refine⟨by omega,I ⟨c,t.take (iC t),(t.drop (iC t)).takeWhile isD⟩,?_,λx e=>?_⟩
    .rw[show m-n=(iC t+over (t.drop (iC t)))+1 by omega,mc,eL,ei,(qQ _).1]
    .cases e;exact⟨b,aEV t,xN a,tY _⟩
   .rw[py a]at d;simp at d
  .rw[py b]at d;simp only[ov,and_true]at d;subst d;exact⟨hU _,O,by simp[eL],λx e=>by cases e⟩
def sJ(n m:Nat)(l:Oo)(j:dP n l=(m,J)):n<=m/\∃P E,l.take (m-n)=pL P++eL E/\(∀F,P=I F->F≠ []/\∀d∈F,isD d=J)/\∀x,E=I x->x.Ok:=by
 cases l with
 | nil=>
  unfold dP at j;simp only[ov,and_true]at j;subst j;exact⟨hU _,O,O,by simp[pL,eL],(λF e=>by cases e),λx e=>by cases e⟩
 | cons c t=>
  unfold dP at j;simp only at j;by_cases g:c=46
  .rw[pz g]at j;by_cases a:bR t=J
   .rw[pz a]at j;obtain⟨i,E,b,f⟩:=xO _ _ _ j;refine⟨by omega,I (t.takeWhile isD),E,?_,(λF e=>by cases e;exact⟨xN a,tY _⟩),f⟩;rw[show m-n=(over t+(m-(n+1+over t)))+1 by omega,mc,ei,b,(qQ _).1,g];rfl
   .rw[py a]at j;simp at j
  .rw[py g]at j;obtain⟨i,E,b,f⟩:=xO _ _ _ j;exact⟨i,O,E,by rw[b];rfl,(λF e=>by cases e),f⟩
def sK(n m:Nat)(l:Oo)(o:dQ n l=(m,J)):n<m/\∃W P E,aJv (l.take (m-n)) W P E:=by
 cases l with
 | nil=>unfold dQ at o;simp at o
 | cons c t=>
  unfold dQ at o;simp only at o;by_cases a:isD c=J
  .rw[pz a]at o;by_cases b:c=48
   .rw[pz b]at o;obtain⟨j,P,E,f,i,g⟩:=sJ _ _ _ o;refine⟨by omega,[48],P,E,?_,by simp,(λd e=>by rw[fk.1 e];rfl),af rfl,i,g⟩;rw[show m-n=(m-(n+1))+1 by omega,mc,f,b];rfl
   .rw[py b]at o;obtain⟨j,P,E,f,i,g⟩:=sJ _ _ _ o;have k:0<over (c::t):=(by unfold over;rw[oj,pz a];simp);refine⟨by omega,(c::t).takeWhile isD,P,E,?_,xN (show bR (c::t)=J from a),tY _,G λu e=>?_,i,g⟩
    .rw[show m-n=over (c::t)+(m-(n+over (c::t))) by omega,ei,f,(qQ _).1]
    .rw[oj,pz a]at e;injection e with e _;exact b e
  .rw[py a]at o;simp at o
def mY{m:Nat}(e:dB l=(m,J)):0<m/\∃neg W P E,aAN (l.take m) neg W P E:=by
 cases l with
 | nil=>unfold dB at e;simp at e
 | cons c t=>
  unfold dB at e;simp only at e;by_cases b:c=45
  .rw[pz b]at e;obtain⟨d,W,P,E,a⟩:=sK _ _ _ e;refine⟨by omega,J,W,P,E,t.take (m-1),?_,a⟩;rw[pz rfl,show m=(m-1)+1 by omega,mc,b];rfl
  .rw[py b]at e;obtain⟨d,W,P,E,a⟩:=sK _ _ _ e;exact⟨d,Q,W,P,E,_,rfl,a⟩
def iL{r:Oo}(a:∀d∈W,isD d=J)(b:bR r=Q):(W++r).takeWhile isD=W/\(W++r).dropWhile isD=r:=by
 rw[List.takeWhile_append_of_pos a,List.dropWhile_append_of_pos a];cases r with
 | nil=>simp
 | cons c t=>
  have:isD c=Q:=b;rw[oj,List.dropWhile_cons,this];simp
def aEW{E:Option mX}(a:∀x,E=I x->x.Ok):bR (eL E)=Q:=by
 cases E with
 | none=>rfl
 | some x=>
  show isD x.c=Q;rcases(a x rfl).1 with e|e<;>rw[e]<;>rfl
def aJw{E:Option mX}(a:∀x,E=I x->x.Ok):bR (pL P++eL E)=Q:=by
 cases P with
 | none=>exact aEW a
 | some F=>rfl
def xP{a X:Oo}(e:a= []\/a= [43]\/a= [45])(f:X≠ [])(b:∀d∈X,isD d=J):cA (a++X)=(decide (a= [45]),X):=by
 rcases e with rfl|rfl|rfl
 .cases X with
  | nil=>exact absurd rfl f
  | cons c t=>
   have g:isD c=J:=b c fi;show(if c=43\/c=45 then(c==45,t)else(Q,c::t))=_;rw[py (by rintro(rfl|rfl)<;>revert g<;>decide)];rfl
 .rfl
 .rfl
def qD{F:Oo}{E:Option mX}(f:∀x,E=I x->x.Ok):∃g,cZ neg W F (eL E)=I g/\g.a=neg/\g.whole=W/\g.c=F/\(if g.d then -(fH g.b:Int)else fH g.b)=pW E:=by
 cases E with
 | none=>exact⟨_,rfl,rfl,rfl,rfl,rfl⟩
 | some x=>
  obtain⟨d,c,b,a⟩:=f x rfl;have e:cA (x.a++x.X)=(decide (x.a= [45]),x.X):=xP c b a;have w:=iL (W:=x.X) (r:= []) a rfl;rw[List.append_nil]at w;refine⟨⟨neg,W,F,decide (x.a= [45]),x.X⟩,?_,rfl,rfl,rfl,?_⟩
  .show(if x.c=101\/x.c=69 then(if(cA (x.a++x.X)).2.takeWhile isD= []\/(cA (x.a++x.X)).2.dropWhile isD≠ []then O else I (Lit.mk neg W F (cA (x.a++x.X)).1 ((cA (x.a++x.X)).2.takeWhile isD)))else O)=_;rw[pz d,e];simp only[w.1,w.2];rw[py (by simp[b])]
  .show(if decide (x.a= [45])=J then _ else _)=(if x.a= [45]then _ else _);simp only[decide_eq_true_eq]
def vZ{r:Oo}(k:W≠ [])(f:∀d∈W,isD d=J)(g:W= [48]\/∀t,W≠48::t)(i:bR r=Q):cR neg (W++r)=bF neg W r:=by
 have a:=iL f i;cases W with
 | nil=>exact absurd rfl k
 | cons c t=>
  have j:isD c=J:=f c fi;show(if isD c then(if c=48 then bF neg [48] (t++r)else bF neg (((c::t)++r).takeWhile isD) (((c::t)++r).dropWhile isD))else O)=_;rw[pz j];by_cases b:c=48
  .rw[pz b];subst b;rcases g with e|e
   .injection e with _ e;subst e;rfl
   .exact absurd rfl (e t)
  .rw[py b,a.1,a.2]
def aJx{E:Option mX}(H:aAN l neg W P E):∃D,bI l=I D/\dA D=j3 neg W P E:=by
 obtain⟨u,w,a⟩:=H;have q:=aJw (P:=P) a.a
 have p:∃D,bF neg W (pL P++eL E)=I D/\dA D=j3 neg W P E:=by
  cases z:P with
  | none=>
   obtain⟨D,g,i,b,n,o⟩:=qD (neg:=neg) (W:=W) (F:= []) a.a;refine⟨D,?_,?_⟩
   .rw[<-g];show bF neg W (eL E)=_
    cases v:E with
    | none=>rfl
    | some x=>
     show(if x.c=46 then _ else cZ neg W [] (eL (I x)))=_;rw[py (by rcases(a.a x v).1 with e|e<;>rw[e]<;>decide)]
   .unfold dA j3;rw[i,b,n,o];rfl
  | some F=>
   obtain⟨s,y⟩:=a.c F z;have k:=iL y (aEW a.a);obtain⟨D,g,i,b,n,o⟩:=qD (neg:=neg) (W:=W) (F:=F) a.a;refine⟨D,?_,?_⟩
   .rw[<-g];show(if(46:UInt8)=46 then(if(F++eL E).takeWhile isD= []then O else cZ neg W ((F++eL E).takeWhile isD) ((F++eL E).dropWhile isD))else cZ neg W [] (46::(F++eL E)))=_;rw[pz rfl,k.1,k.2,py s]
   .unfold dA j3;rw[i,b,n,o];rfl
 have j:cR neg u=bF neg W (pL P++eL E):=by rw[a.is];exact vZ a.ne a.f a.b q
 obtain⟨D,g,i⟩:=p;refine⟨D,?_,i⟩;rw[w];cases neg with
 | true=>
  show(if(45:UInt8)=45 then cR J u else cR Q (45::u))=_;rw[pz rfl,j,g]
 | false=>
  show bI u=_
  cases f:u with
  | nil=>rw[a.is]at f;have:=List.append_eq_nil_iff.1 f;exact absurd this.1 a.ne
  | cons c t=>
   show(if c=45 then cR J t else cR Q (c::t))=_
   have B:c≠45:=by
    rintro rfl;have b:=a.is;rw[f]at b;cases m:W with
    | nil=>exact a.ne m
    | cons d r=>
     rw[m]at b;injection b with b _;have:=a.f d (by rw[m];exact fi);rw[<-b]at this;revert this;decide
   rw[py B,<-f,j,g]
def aJy{E:Option mX}(c:aAN l neg W P E):bitsOf l=cF (j3 neg W P E):=by
 obtain⟨d,b,a⟩:=aJx c;unfold bitsOf;rw[b,<-a];rfl
