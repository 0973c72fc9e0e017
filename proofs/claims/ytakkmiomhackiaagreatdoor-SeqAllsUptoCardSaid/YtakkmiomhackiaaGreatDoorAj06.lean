/-
  The program, one part of its walk. Conditions: none.
-/
import Derived.Test.YtakkmiomhackiaaGreatDoorAj05
import Derived.Deep.RegionLaw
import Derived.Deep.AppendLies
set_option linter.all false
set_option maxRecDepth 100000
set_option maxHeartbeats 16000000
open Go.Proofs.Tryz
open Bool renaming false->ac,true->Q
open Go renaming Addr->ah,Calls->ae,TypeId->aw,Value->X,World->U,cell_of_one->bp,free_of_one->cz,loadVar->di,lt_of_block->bg,maxLen->bm,method->az,results->av
open Go.Proofs.Tryz renaming func219->cr,func220->cu,func235->dw,func238->dp,ntmps219->ct,ntmps220->cw,ntmps235->dx,ntmps238->dq,prog->Y,results221->ep,results238->dt,t181->dy,t187->ee,underlying184->dm
open Max renaming max->ai
open Option renaming none->O,some->N
open Or renaming inl->ao,inr->bj
namespace Go.Proofs.YtakkmiomhackiaaGreatDoor
open Go.RowKit
open Addr renaming add->bz
open Ending renaming panicked->du,returned->ar
open IntKind renaming i64->I
open Lib renaming run_eql_slice_nil->ew
open Obj renaming cells->W
open Keeps renaming A2->bx,A4->bh
open Sz renaming B9->dj
open Tr renaming A9->aj
open aQ renaming I4->co
open Result renaming andThen_ok->cg,ok->af
open RowKit renaming Below->ag
open Value renaming agg->D,bool->bu,iface->G,int->J,pointer->Z,slice->K
variable {w:U}{b bytes:Nat}{c:Array X}{d e:X}
def szV(z:Sz):X:=D #[z.g,z.bytes,z.h]
def xE(w:U):ae Y 343 #[D #[]] w λe w'=>e=ar (D #[J I 1,J I 0,J I 1])/\ag w w w':=by
 go_enter func343,ntmps343;go_wp2;exact bb (v:=D #[J I 1,J I 0,J I 1]) (by simp[av,results343,go_sem]) rfl ⟨rfl,((dk _ _).alloc (hU _) _).alloc (by simp) _⟩
def xF(w:U)(b:Bool):ae Y 345 #[b] w λe w'=>e=ar (D #[J I 1,J I 0,J I 1])/\ag w w w':=by
 go_enter func345,ntmps345;go_wp2;exact bb (v:=D #[J I 1,J I 0,J I 1]) (by simp[av,results345,go_sem]) rfl ⟨rfl,(dk _ _).alloc (hU _) _⟩
def jF(w:U)(n b d:Nat):ae Y 351 #[D #[n,b,d]] w λe w'=>e=ar (D #[n,b,d])/\ag w w w':=by
 go_enter func351,ntmps351;go_wp2;exact bb (v:=D #[n,b,d]) (by simp[av,results351,go_sem]) rfl ⟨rfl,((dk _ _).alloc (hU _) _).alloc (by simp) _⟩
def aEI(w:U)(b:Nat):(follow [⟨186,0,Q⟩] 181 (.val (Z b))).run Y w=af (183,.var ⟨b,0,O⟩) w:=by kernel_rfl
def aJj(w:U):(typeInfo 181).run Y w=af dy w:=by kernel_rfl
def aEJ(w:U)(b:Nat):(follow [⟨189,0,Q⟩] 187 (.val (Z b))).run Y w=af (183,.var ⟨b,0,O⟩) w:=by kernel_rfl
def aJk(w:U):(typeInfo 187).run Y w=af ee w:=by kernel_rfl
def aCK(w:U)(a:ah):(receiverAt 183 (.var a) ac O).run Y w=(di 183 a).run Y w:=by kernel_rfl
def aCL{T:aw}{f:X}(h:w.heap[b]?=N (W c T (0,0)))(m:c[0]?=N f)(l:c[1]?=N e)(k:c[2]?=N d):(di 183 ⟨b,0,O⟩).run Y w=af (D #[f,e,d]) w:=by
 have g:=run_loadCells_list (P:=Y) w ⟨b,0,O⟩ [f,e,d] (λj v a=>by
  have i:(⟨b,0,O⟩:ah).add j=⟨b,j,O⟩:=by unfold bz;split<;>simp_all
  rw[i,aA h]
  match j,a with
  | 0,a=>cases a;exact m
  | 1,a=>cases a;exact l
  | 2,a=>cases a;exact k
  | j+3,a=>simp at a)
 simp[di];simp at g;rw[g];rfl
def qK{S:aw}{a:X}(h:w.heap[b]?=N (W c S (0,0)))(j:c[0]?=N e)(i:c[1]?=N d)(g:c[2]?=N a):
 (az 565 181 (Z b) "affidavit/node.sized").run Y w=af (351,D #[e,d,a]) w:=by
 have f:dy.methods.find? (·.name== "affidavit/node.sized")=N ⟨ "affidavit/node.sized",388,#[⟨186,0,Q⟩],N (351,ac)⟩:=by kernel_rfl
 unfold az;rw[pu,aJj];simp only[cg,f];rw[pu,aEI];simp only[cg];rw[pu];simp[aCK,pt,aCL h j i g]
def qL{S:aw}{a:X}(h:w.heap[b]?=N (W c S (0,0)))(j:c[0]?=N e)(i:c[1]?=N d)(g:c[2]?=N a):
 (az 565 187 (Z b) "affidavit/node.sized").run Y w=af (351,D #[e,d,a]) w:=by
 have f:ee.methods.find? (·.name== "affidavit/node.sized")=N ⟨ "affidavit/node.sized",388,#[⟨189,0,Q⟩],N (351,ac)⟩:=by kernel_rfl
 unfold az;rw[pu,aJk];simp only[cg,f];rw[pu,aEJ];simp only[cg];rw[pu];simp[aCK,pt,aCL h j i g]
def gU(l:List Tr):(Tr.list l).A9=fY 0 (l.map aj):=by
 rw[aj];congr 1;exact om
def hZ(k:List Oo)(l:List Tr):(Tr.object k l).A9=fY (bD k) (l.map aj):=by
 rw[aj];congr 1;exact om
def cT(bytes:Nat)(l:List Sz):Sz:=l.foldl (λ(a z:Sz)=>(⟨a.g+z.g,a.bytes+z.bytes,ai a.h z.h⟩:Sz)) ⟨1,bytes,0⟩
def aCM(bytes:Nat)(l:List Sz)(z:Sz):cT bytes (l++ [z])=⟨(cT bytes l).g+z.g,(cT bytes l).bytes+z.bytes,ai (cT bytes l).h z.h⟩:=by
 unfold cT;rw[List.foldl_append];rfl
def lA(bytes:Nat)(l:List Sz):fY bytes l=⟨(cT bytes l).g,(cT bytes l).bytes,(cT bytes l).h+1⟩:=rfl
def aCN{l:List Sz}{i:Nat}{z:Sz}(h:l[i]?=N z):cT bytes (l.take (i+1))=⟨(cT bytes (l.take i)).g+z.g,(cT bytes (l.take i)).bytes+z.bytes,ai (cT bytes (l.take i)).h z.h⟩:=by
 rw[<-aCM,List.take_add_one,h];rfl
def sB:∀(l:List Sz)(a:Sz),(∀z∈l,z.B9=Q)->a.h<=512->
 (l.foldl (λ(a z:Sz)=>(⟨a.g+z.g,a.bytes+z.bytes,ai a.h z.h⟩:Sz)) a).g<=a.g+l.length*65536/\
 (l.foldl (λ(a z:Sz)=>(⟨a.g+z.g,a.bytes+z.bytes,ai a.h z.h⟩:Sz)) a).bytes<=a.bytes+l.length*2097152/\
 (l.foldl (λ(a z:Sz)=>(⟨a.g+z.g,a.bytes+z.bytes,ai a.h z.h⟩:Sz)) a).h<=512
 | [],a,_,b=>⟨by simp,by simp,b⟩
 | z::l,a,h,b=>by
  have d:=h z (by simp);simp[dj]at d;have:=sB l ⟨a.g+z.g,a.bytes+z.bytes,ai a.h z.h⟩ (λy c=>h y (List.mem_cons_of_mem _ c)) (by simp only[];omega);simp only[List.foldl_cons,List.length_cons]at this⊢;omega
def sC{l:List Sz}(h:∀z∈l,z.B9=Q):(cT bytes l).g<=1+l.length*65536/\(cT bytes l).bytes<=bytes+l.length*2097152/\(cT bytes l).h<=512:=
 sB l ⟨1,bytes,0⟩ h (by simp)
def oB(w:U)(bytes:Nat)(a:List Sz)(i:Nat)(wr:U):Prop:=
 wr.heap[w.heap.size]?=N (W #[J I 0,J I 0,J I 0] 183 (0,0))/\wr.heap[w.heap.size+1]?=N (W #[J I (cT bytes (a.take i)).g,J I (cT bytes (a.take i)).bytes,J I (cT bytes (a.take i)).h] 183 (0,0))/\ag w w wr
def oB.K8{b:U}{i:Nat}{d:List Sz}{a z:Sz}{h j l:Int}(m:b.heap[w.heap.size+1]?=N (W #[a.g,a.bytes,a.h] 183 (0,0)))(s:b.heap[w.heap.size]?=N (W #[J I 0,J I 0,J I 0] 183 (0,0)))
 (f:ag w w b)(t:cT bytes (d.take (i+1))=⟨a.g+z.g,a.bytes+z.bytes,ai a.h z.h⟩)(q:h=((a.g+z.g:Nat):Int))(r:j=((a.bytes+z.bytes:Nat):Int))(n:l=((ai a.h z.h:Nat):Int))(o:Obj):
 oB w bytes d (i+1) ((((b.setCell ⟨w.heap.size+1,0,O⟩ (J I h)).setCell ⟨w.heap.size+1,1,O⟩ (J I j)).setCell ⟨w.heap.size+1,2,O⟩ (J I l)).alloc o):=by
 subst q;subst r;subst n;have c:=bg m
 have g:Keeps (λk=>k=w.heap.size+1) b ((((b.setCell ⟨w.heap.size+1,0,O⟩ (J I ((a.g+z.g:Nat):Int))).setCell ⟨w.heap.size+1,1,O⟩ (J I ((a.bytes+z.bytes:Nat):Int))).setCell ⟨w.heap.size+1,2,O⟩ (J I ((ai a.h z.h:Nat):Int))).alloc o):=
  ((((bh (λk=>k=w.heap.size+1) b).A3 (p:=⟨w.heap.size+1,0,O⟩) (ao rfl) _).A3 (p:=⟨w.heap.size+1,1,O⟩) (ao rfl) _).A3 (p:=⟨w.heap.size+1,2,O⟩) (ao rfl) _).A5 _
 refine⟨g.B4 s (by omega),?_,f.trans (g.A6 f.size (λk e=>by omega))⟩;rw[t];exact(de _ _ _ (by simpa[World.setCell]using c)).trans (aB (aB (aB m _) _) _)
def mT(F:Nat->Prop)(w:U)(V:X)(c:List X)(n:List Tr)(bytes:Nat)(hw:Win 97 id w V c)(ht:eF F w c n)(hin:∀t∈n,t.A9.B9=Q)(hlen:n.length<=65536)(hby:bytes<=1073741824):
 ae Y 221 #[V,bytes] w λe w'=>e=ar (szV (fY bytes (n.map aj)))/\ag w w w':=by
 obtain⟨u,R⟩:∃u,n.map aj=u:=⟨_,rfl⟩;have hzl:u.length=c.length:=by rw[<-R,List.length_map,ht.1]
 have hzw:∀z∈u,z.B9=Q:=λz hz=>by
  rw[<-R]at hz;obtain⟨t,h1,rfl⟩:=List.mem_map.1 hz;exact hin t h1
 have hvl:c.length<=65536:=by rw[ht.1];exact hlen
 have hbnd:∀i,(cT bytes (u.take i)).g<=4294967297/\(cT bytes (u.take i)).bytes<=138512695296/\(cT bytes (u.take i)).h<=512:=λi=>by
  have:=sC (bytes:=bytes) (l:=u.take i) (λz hz=>hzw z (List.mem_of_mem_take hz));have hl:(u.take i).length<=65536:=by rw[el];omega
  omega
 rw[R,lA];have HZS:=A R;have HT:=A ht;have HWN:=A hw;have HBND:=A hbnd;have HZL:=A hzl;have HZW:=A hzw
 have L:oB w bytes u 0 ((w.alloc (W #[J I 0,J I 0,J I 0] 183)).alloc (W #[J I 1,bytes,J I 0] 183)):=by
  refine⟨(de _ _ _ (by simp)).trans (aL w _),?_,((dk _ _).alloc (hU _) _).alloc (by simp) _⟩;have:=aL (w.alloc (W #[J I 0,J I 0,J I 0] 183)) (W #[J I 1,bytes,J I 0] 183);rw[World.size_alloc]at this;exact this
 have HI:=A L;obtain⟨va,vc,hV⟩:=hw.A8;subst hV;clear R hzl hzw hbnd ht hw hin hlen L;rcases Nat.eq_zero_or_pos c.length with h0|h0
 .rw[h0];have HV0:=A h0;clear h0;go_enter func221,ntmps221;go_wp2;go_loopw [13] (λv wr=>v=J I 0/\M (oB w bytes u 0 wr)) (λ_ _=>0)
  case atStart=>exact⟨rfl,HI⟩
  case round=>
   obtain⟨rfl,HS⟩:=hrel;obtain⟨m,h,j⟩:=HS.o;obtain⟨a,H⟩:∃a,cT bytes (u.take 0)=a:=⟨_,rfl⟩;rw[H]at h;have hab:a=⟨1,bytes,0⟩:=H.symm;have hz0:u= []:=eb (by rw[HZL.o,HV0.o]);have HA2:=A (show cT bytes u=a by rw[<-H,hz0];rfl);have q0:wr.cell? ⟨w.heap.size+1,0,O⟩=N (J I a.g):=(by rw[aA h];rfl);have q1:wr.cell? ⟨w.heap.size+1,1,O⟩=N (J I a.bytes):=(by rw[aA h];rfl);have q2:wr.cell? ⟨w.heap.size+1,2,O⟩=N (J I a.h):=(by rw[aA h];rfl);have qf:∀o,wr.frozen? ⟨w.heap.size+1,o,O⟩=ac:=free_at h;have r0:wr.cell? w=N (J I 0):=(by rw[aA m];rfl);have r1:wr.cell? ⟨w.heap.size,1,O⟩=N (J I 0):=(by rw[aA m];rfl);have r2:wr.cell? ⟨w.heap.size,2,O⟩=N (J I 0):=(by rw[aA m];rfl);have rf:∀o,wr.frozen? ⟨w.heap.size,o,O⟩=ac:=free_at m;have hab3:a.h<=512:=(by rw[hab];simp);have HR0:=A m;have HBL:=A j;clear m h j H hab hz0 HI;go_wp2_with fail;rw[HA2.o];have hk1:Keeps (λk=>k=w.heap.size+1) wr (wr.setCell ⟨w.heap.size+1,2,O⟩ (J I ((a.h:Int)+1))):=(bh (λk=>k=w.heap.size+1) wr).A3 (p:=⟨w.heap.size+1,2,O⟩) (ao rfl) _;have hr1:=hk1.B4 HR0.o (by omega);have f:=aB (aB (aB hr1 (o:=0) (J I a.g)) (o:=1) (J I a.bytes)) (o:=2) (J I ((a.h:Int)+1));simp only[jy,kL,la]at f;have T:=((((HBL.o.setCell (p:=⟨w.heap.size+1,2,O⟩) (by simp) (J I ((a.h:Int)+1))).setCell (p:=w) (hU _) (J I a.g)).setCell (p:=⟨w.heap.size,1,O⟩) (hU _) (J I a.bytes)).setCell (p:=⟨w.heap.size,2,O⟩) (hU _) (J I ((a.h:Int)+1)));obtain⟨Wf,hWf⟩:∃Wf,((((wr.setCell ⟨w.heap.size+1,2,O⟩ (J I ((a.h:Int)+1))).setCell w (J I a.g)).setCell ⟨w.heap.size,1,O⟩ (J I a.bytes)).setCell ⟨w.heap.size,2,O⟩ (J I ((a.h:Int)+1)))=Wf:=⟨_,rfl⟩;rw[hWf]at f T⊢;have y0:Wf.cell? w=N (J I a.g):=(by rw[aA f];rfl);have y1:Wf.cell? ⟨w.heap.size,1,O⟩=N (J I a.bytes):=(by rw[aA f];rfl);have y2:Wf.cell? ⟨w.heap.size,2,O⟩=N (J I ((a.h:Int)+1)):=(by rw[aA f];rfl);exact bb (v:=D #[J I a.g,J I a.bytes,J I ((a.h:Int)+1)]) (by simp[av,ep,go_sem,y0,y1,y2]) rfl ⟨rfl,T⟩
 .obtain⟨g,off,P,rfl,hgb,S⟩:∃g off P,va=N ⟨g,off,O⟩/\w.heap[g]?=N (W P 97 (0,0))/\∀i x,c[i]?=N x->P[off+i]?=N x:=by
   rcases HWN.o with⟨hv,hn⟩|⟨g,off,cap,P,hv,hg,hc,ho,hm,hi⟩
   .rw[hn]at h0;simp at h0
   .cases hv;exact⟨g,off,P,rfl,hg,hi⟩
  have hgl:=bg hgb;have HGB:=A hgb;have HCL:=A S;clear hgb S h0;go_enter func221,ntmps221;go_wp2;go_loopw [13] (λv wr=>∃i:Nat,v=J I i/\i<=c.length/\M (oB w bytes u i wr)) (λv _=>c.length-(intOf v).toNat)
  case atStart=>exact⟨0,rfl,dr _,HI⟩
  case round=>
   obtain⟨i,rfl,hin,HS⟩:=hrel;clear HI;obtain⟨m,h,j⟩:=HS.o;obtain⟨a,H⟩:∃a,cT bytes (u.take i)=a:=⟨_,rfl⟩;have hab:=HBND.o i;rw[H]at h hab;obtain⟨hab1,hab2,hab3⟩:=hab;have q0:wr.cell? ⟨w.heap.size+1,0,O⟩=N (J I a.g):=(by rw[aA h];rfl);have q1:wr.cell? ⟨w.heap.size+1,1,O⟩=N (J I a.bytes):=(by rw[aA h];rfl);have q2:wr.cell? ⟨w.heap.size+1,2,O⟩=N (J I a.h):=(by rw[aA h];rfl);have qf:∀o,wr.frozen? ⟨w.heap.size+1,o,O⟩=ac:=free_at h;have r0:wr.cell? w=N (J I 0):=(by rw[aA m];rfl);have r1:wr.cell? ⟨w.heap.size,1,O⟩=N (J I 0):=(by rw[aA m];rfl);have r2:wr.cell? ⟨w.heap.size,2,O⟩=N (J I 0):=(by rw[aA m];rfl);have rf:∀o,wr.frozen? ⟨w.heap.size,o,O⟩=ac:=free_at m;have hszr:=bg h;have HR0:=A m;have HS0:=A h;have HA:=A H;have HBL:=A j;by_cases hlt:i<c.length
   .have hlt2:(i:Int)<(c.length:Int):=(by omega);obtain⟨vi,hvi⟩:∃vi,c[i]?=N vi:=⟨_,bf hlt⟩;obtain⟨ti,hti⟩:∃ti,n[i]?=N ti:=⟨_,bf (by have:=HT.o.1;omega)⟩;obtain⟨d,y⟩:∃d,ti.A9=d:=⟨_,rfl⟩;have hzz:u[i]?=N d:=(by rw[<-HZS.o,List.getElem?_map,hti,<-y];rfl);have htree:=HT.o.2 i vi ti hvi hti
    have hcv:wr.cell? ⟨g,off+i,O⟩=N vi:=by
     rw[aA ((j.block g hgl).trans HGB.o)];exact HCL.o i vi hvi
    have hzb:=HZW.o d (List.mem_of_getElem? hzz);have hzb2:d.g<=65536/\d.bytes<=2097152/\d.h<=512:=(by simp[dj]at hzb;omega);obtain⟨hzb3,hzb4,-⟩:=hzb2;have HNXT:=A (show cT bytes (u.take (i+1))=⟨a.g+d.g,a.bytes+d.bytes,ai a.h d.h⟩ by rw[aCN hzz,H]);clear hvi hti hzz hzb H m h;rcases htree with _|b|x|s|⟨b2,itemsV,vals2,l2,hb2,r,hw2,hlen2,ht2⟩|⟨b2,keysV,itemsV,vals2,keys,l2,hb2,r,hk2,hw2,hlen2,ht2⟩
    focus
     have hm:∀w:U,(az 565 177 (D #[]) "affidavit/node.sized").run Y w=af (343,D #[]) w:=λ_=>(by kernel_rfl);have C:=A (λw0=>xE w0);have hz1:d.g=1/\d.bytes=0/\d.h=1:=by rw[<-y];simp[aj]
    rotate_left
    focus
     have hm:∀w:U,(az 565 178 (bu b) "affidavit/node.sized").run Y w=af (345,bu b) w:=λ_=>(by kernel_rfl);have C:=A (λw0=>xF w0 b);have hz1:d.g=1/\d.bytes=0/\d.h=1:=by rw[<-y];simp[aj]
    rotate_left
    focus
     have hm:∀w:U,(az 565 179 (.float .f64 x) "affidavit/node.sized").run Y w=af (347,.float .f64 x) w:=λ_=>(by kernel_rfl);have C:=A (λw0=>aAK w0 x);have hz1:d.g=1/\d.bytes=0/\d.h=1:=by rw[<-y];simp[aj]
    rotate_left
    focus
     obtain⟨sv,hsv⟩:∃sv:ByteArray,(⟨s.toArray⟩:ByteArray)=sv:=⟨_,rfl⟩;rw[hsv]at hcv;have hss:sv.size=s.length:=(by rw[<-hsv];show s.toArray.size=_;simp);have hm:∀w:U,(az 565 180 (.string sv) "affidavit/node.sized").run Y w=af (349,.string sv) w:=λ_=>(by kernel_rfl);have C:=A (λw0=>xA w0 sv);rw[hss]at C;have hz1:d.g=1/\d.bytes=s.length/\d.h=1:=(by rw[<-y];simp[aj]);clear hsv hss
    rotate_left
    focus
     have q:=(j.block b2 (bg r)).trans r;have hm:=qK q rfl rfl rfl;rw[y]at hm;have C:=A (λw0=>jF w0 d.g d.bytes d.h);have hz1:d.g=d.g/\d.bytes=d.bytes/\d.h=d.h:=⟨rfl,rfl,rfl⟩;clear r q hw2 ht2
    rotate_left
    focus
     have q:=(j.block b2 (bg r)).trans r;have hm:=qL q rfl rfl rfl;rw[y]at hm;have C:=A (λw0=>jF w0 d.g d.bytes d.h);have hz1:d.g=d.g/\d.bytes=d.bytes/\d.h=d.h:=⟨rfl,rfl,rfl⟩;clear r q hk2 hw2 ht2
    all_goals
     clear y j;go_wp2_with fail;refine(C.o _).mono ?_;rintro e w4 ⟨rfl,hb4⟩;have B:=keep HS0.o hb4;have hr4:=keep HR0.o hb4;have d0:w4.cell? ⟨w.heap.size+1,0,O⟩=N (J I a.g):=(by rw[aA B];rfl);have d1:w4.cell? ⟨w.heap.size+1,1,O⟩=N (J I a.bytes):=(by rw[aA B];rfl);have d2:w4.cell? ⟨w.heap.size+1,2,O⟩=N (J I a.h):=(by rw[aA B];rfl);have df:∀o,w4.frozen? ⟨w.heap.size+1,o,O⟩=ac:=free_at B;have hsz4:=bg B;have HS4:=A B;have HR4:=A hr4;have HB4:=A (HBL.o.trans (hb4.mono (Nat.le_of_lt (by omega))));clear B hr4 hb4 q0 q1 q2 qf r0 r1 r2 rf hcv;go_wp2_with fail;refine⟨⟨i+1,by congr 1,by omega,A (oB.K8 HS4.o HR4.o HB4.o HNXT.o (by omega) (by omega) (by omega) _)⟩,?_⟩;show c.length-((i:Int)+1).toNat<c.length-((i:Int)).toNat;omega
   .have heq:i=c.length:=(by omega);subst heq;clear H m h j;go_wp2_with fail;have H:=HA.o;rw[List.take_of_length_le (Nat.le_of_eq HZL.o)]at H;rw[H];have hk1:Keeps (λk=>k=w.heap.size+1) wr (wr.setCell ⟨w.heap.size+1,2,O⟩ (J I ((a.h:Int)+1))):=(bh (λk=>k=w.heap.size+1) wr).A3 (p:=⟨w.heap.size+1,2,O⟩) (ao rfl) _;have hr1:=hk1.B4 HR0.o (by omega);have f:=aB (aB (aB hr1 (o:=0) (J I a.g)) (o:=1) (J I a.bytes)) (o:=2) (J I ((a.h:Int)+1));simp only[jy,kL,la]at f;have T:=((((HBL.o.setCell (p:=⟨w.heap.size+1,2,O⟩) (by simp) (J I ((a.h:Int)+1))).setCell (p:=w) (hU _) (J I a.g)).setCell (p:=⟨w.heap.size,1,O⟩) (hU _) (J I a.bytes)).setCell (p:=⟨w.heap.size,2,O⟩) (hU _) (J I ((a.h:Int)+1)));obtain⟨Wf,hWf⟩:∃Wf,((((wr.setCell ⟨w.heap.size+1,2,O⟩ (J I ((a.h:Int)+1))).setCell w (J I a.g)).setCell ⟨w.heap.size,1,O⟩ (J I a.bytes)).setCell ⟨w.heap.size,2,O⟩ (J I ((a.h:Int)+1)))=Wf:=⟨_,rfl⟩;rw[hWf]at f T⊢;have y0:Wf.cell? w=N (J I a.g):=(by rw[aA f];rfl);have y1:Wf.cell? ⟨w.heap.size,1,O⟩=N (J I a.bytes):=(by rw[aA f];rfl);have y2:Wf.cell? ⟨w.heap.size,2,O⟩=N (J I ((a.h:Int)+1)):=(by rw[aA f];rfl);exact bb (v:=D #[J I a.g,J I a.bytes,J I ((a.h:Int)+1)]) (by simp[av,ep,go_sem,y0,y1,y2]) rfl ⟨rfl,T⟩
def l9:lB 184 97 1 16:=⟨dm,by decide,by
 have h:(Y.info? 97).map (λi=>(i.zero,i.size,i.bytes))=N (N .nilIface,1,16):=by kernel_rfl
 obtain⟨i,c,a,d,b⟩:=info_parts h;exact⟨i,_,c,a,d,b,rfl⟩⟩
def xH(w:U)(a:List X)(e:Ending)(w':U):Prop:=
 ∃v,e=ar v/\Win 97 id w' v a/\(∀k,v.ownBlock=N k->w.heap.size<=k/\k<w'.heap.size)/\ag w w w'
def xI(w:U):ae Y 238 #[()] w λe w'=>xH w [] e w':=by
 have d:∀(w:U)(a:Option ah)(n c n' b:Nat),(binOp .eql 184 (K a n c) (K O n' b)).run Y w=af (bu a.isNone) w:=λw a n c n' b=>ew w _ _ a n c n' b dm;go_enter dp,dq;go_wp2_with fail;exact bb (v:=K O 0 0) (by simp[av,dt,go_sem]) rfl ⟨_,rfl,.nil _ _ _,λk h=>(by cases h),dk _ _⟩
def nI(w:U)(g off cap:Nat)(b:List X)(s:b.length<=1048576)(f:∀v∈b,v.oneCell'=Q)(l:∀i x,b[i]?=N x->w.cell? ⟨g,off+i,O⟩=N x):
 ae Y 238 #[K (g,off) b.length cap] w λe w'=>xH w b e w':=by
 have m:ag w.heap.size w (w.alloc (W #[] 97)):=(dk _ _).alloc (hU _) _;have h:=aL w (W #[] 97);have o:aQ 1 97 (w.alloc (W #[] 97)) (K (N ⟨w.heap.size,0,O⟩) 0 0) 0 []:=⟨by simp,bj ⟨w.heap.size,0,0,#[],rfl,h,hU _,by simp,dr _,λj u q=>by simp at q⟩⟩;have t:=A m;have r:=A o;have y:=A s;have p:=A f
 have d:∀j u,b[j]?=N u->(w.alloc (W #[] 97)).cell? ((⟨g,off,O⟩:ah).add j)=N u:=by
  intro j u q;have B:(⟨g,off,O⟩:ah).add j=⟨g,off+j,O⟩:=by unfold bz;split<;>simp_all
  rw[B];have z:=l j u q;exact(World.cell?_of_block (de _ _ _ (World.block_lt_of_cell? w _ z))).trans z
 have C:=A d;clear m h o s l d f;have F:∀(w:U)(a:Option ah)(n c n' m:Nat),(binOp .eql 184 (K a n c) (K O n' m)).run Y w=af (bu a.isNone) w:=λw a n c n' m=>ew w _ _ a n c n' m dm;by_cases f:b= []
 .subst f;go_enter dp,dq;go_wp2_with (at_builtin;refine sD l9 rfl _ _ rfl rfl r.o (N ⟨g,off,O⟩) cap rfl ?_);go_wp2_with fail;exact bb (v:=K (N ⟨w.heap.size,0,O⟩) 0 0) (by simp[av,dt,go_sem]) rfl ⟨_,rfl,co (by simpa using r.o),λk l=>(by cases l;exact⟨hU _,by simp⟩),t.o⟩
 .obtain⟨n,h⟩:∃n,b.length=n+1:=⟨b.length-1,by have:=List.length_pos_iff.2 f;omega⟩;rw[h];have d:=A h;clear f h;go_enter dp,dq;go_wp2_with (at_builtin;refine bC l9 rfl _ _ rfl rfl r.o ⟨g,off,O⟩ (n+1) cap b rfl ?_ C.o ?_ ?_ ?_ ?_ ?_)
  .rw[d.o];omega
  .exact p.o
  .omega
  .have:=y.o;rw[d.o]at this;omega
  .have:=y.o;rw[d.o]at this;unfold bm;omega
  intro H f c w' s z h;have o:=A s;have L:=A z;have B:=A h;clear s z h;go_wp2_with fail;refine bb (v:=K (H,f) (n+1) c) (by simp[av,dt,go_sem]) rfl ?_;refine⟨_,rfl,?_,?_,?_⟩
  .exact co (n:=n+1) (by simpa using o.o)
  .intro k h;cases h;rcases L.o with l|l
   .cases l;exact⟨hU _,Nat.lt_of_lt_of_le (by simp) B.o.size⟩
   .exact⟨bo (by simp) l.1,l.2⟩
  .exact((bx (λ_=>False) t.o).trans B.o (λk l=>bj (by cases l;exact hU _))).A6 (hU _) (λ_ l=>l.elim)
def aCO(w:U)(b n:Nat)(V:X)(a:List X)(h:w.heap[b]?=N (W #[V] 195 (0,0)))(d:Win 97 id w V a)(g:a.length<n):
 ae Y 219 #[Z b,n] w λe w'=>e=du [{v:=G 29 (J I 102),recovered:=ac}]/\w'=w:=by
 have j:=bp h;obtain⟨i,k,c⟩:=d.A8;have f:(a.length:Int)<(n:Int):=by omega
 clear h d g;subst c;go_enter cr,ct;go_wp2_with fail;exact⟨rfl,rfl,rfl⟩
def wK(w:U)(b n:Nat)(V:X)(a:List X)(S:w.heap[b]?=N (W #[V] 195 (0,0)))(T:Win 97 id w V a)(B:a.length<=1048576)(f:∀v∈a,v.oneCell'=Q)(u:n<=a.length):
 ae Y 219 #[Z b,n] w λe w'=>xH w (a.drop (a.length-n)) e w':=by
 have hc:=bp S;have q:¬(a.length:Int)<(n:Int):=by omega
 have j:(n:Int)<=(a.length:Int):=by omega
 rcases T with⟨rfl,rfl⟩|⟨g,off,cap,g2,rfl,C,g3,-,F,hi⟩
 .have c:n=0:=by simpa using u
  subst c;have p:=A (xI w);clear S f B u q j;go_enter cr,ct;go_wp2_with fail;refine(p.o).mono ?_;rintro e w1 ⟨v,rfl,h,l,m⟩;have o:=A (And.intro h (And.intro l m));obtain⟨a2,c2,rfl⟩:=h.A8;clear h l m;go_wp2;go_ret;exact⟨_,rfl,o.o.1,o.o.2⟩
 .obtain⟨k,y⟩:∃k,a.length-n=k:=⟨_,rfl⟩;have g4:k<=a.length:=by omega
  rw[y];have H:I.wrap ((a.length:Int)-(n:Int))=(k:Int):=by rw[b9];omega
  have g5:(0:Int)<=(k:Int):=by omega
  have L:(k:Int)<=(a.length:Int):=by omega
  have g6:cap<=9223372036854775807:=by unfold bm at F;omega
  have r:(a.drop k).length=a.length-k:=List.length_drop
  have c:∀i x,(a.drop k)[i]?=N x->w.cell? ⟨g,off+k+i,O⟩=N x:=λi x z=>by
   rw[List.getElem?_drop]at z;rw[aA C,show off+k+i=off+(k+i) by omega];exact hi (k+i) x z
  have d:∀v∈a.drop k,v.oneCell'=Q:=λv P=>f v (List.mem_of_mem_drop P);have HK:=A (And.intro y r);by_cases R:cap=k
  .have s:a.drop k= []:=eb (by omega);rw[s];have p:=A (nI w g off 0 [] (by simp) (λv P=>by simp at P) (λi x z=>by simp at z));have t:a.length=k:=(by omega);subst R;clear S f B u hi C F c d s r y;rw[t]at hc q j H L;clear t;go_enter cr,ct;go_wp2_with fail;refine(p.o).mono ?_;rintro e w1 ⟨v,rfl,h,l,m⟩;have o:=A (And.intro h (And.intro l m));obtain⟨a2,c2,rfl⟩:=h.A8;clear h l m;go_wp2;go_ret;exact⟨_,rfl,o.o.1,o.o.2⟩
  .have p:=A (nI w g (off+k) (cap-k) (a.drop k) (by rw[r];omega) d c);rw[r]at p;clear S f B u hi C F c d y r;go_enter cr,ct;go_wp2_with fail;refine(p.o).mono ?_;rintro e w1 ⟨v,rfl,h,l,m⟩;have o:=A (And.intro h (And.intro l m));obtain⟨a2,c2,rfl⟩:=h.A8;clear h l m;go_wp2;go_ret;have c:=o.o.1;have d:=o.o.2;rw[HK.o.2]at c d;exact⟨_,rfl,c,d⟩
def jX(w:U)(b:Nat)(V:X)(a:List X)(k:Nat)(T:aw)(v:X)(w':U):Prop:=
 ∃g off cap,w'.heap[b]?=N (W #[K (N ⟨g,off,O⟩) (k+1) cap] 195 (0,0))/\Win 97 id w' (K (N ⟨g,off,O⟩) (k+1) cap) (a.take k++ [G T v])/\(V.ownBlock=N g\/w.heap.size<=g)/\Keeps (λk=>k=b\/V.ownBlock=N k) w w'
def Win.B3{t:Type}{e:Nat}{enc:t->X}{g off n cap:Nat}{l:List t}(h:Win e enc w (K (g,off) n cap) l){k:Nat}(q:k<=l.length):Win e enc w (K (g,off) k cap) (l.take k):=by
 have o:(l.take k).length=k:=by rw[el];omega
 rcases h with⟨c,_⟩|⟨r,d,f,b,c,j,s,m,p,hi⟩
 .cases c
 .cases c;refine bj ⟨g,off,cap,b,by rw[o],j,by omega,m,p,λi x a=>?_⟩;rw[List.getElem?_take]at a;split at a
  .exact hi i x a
  .cases a
def aAL(w:U)(n a d:Nat)(h:(⟨n,a,d⟩:Sz).B9=ac)(m:n<=4611686018427387904)(l:a<=4611686018427387904)(f:d<=4611686018427387904):ae Y 235 #[D #[n,a,d]] w λe w'=>e=ar (bu ac)/\ag w w w':=by
 by_cases j:n<=65536
 .have b:(n:Int)<=65536:=by omega
  by_cases i:a<=2097152
  .have c:(a:Int)<=2097152:=by omega
   have g:¬(d:Int)<=512:=by
    intro k;simp[dj]at h;omega
   clear h;go_enter dw,dx;go_wp2;go_ret;exact⟨rfl,(dk _ _).alloc (hU _) _⟩
  .have c:¬(a:Int)<=2097152:=(by omega);clear h;go_enter dw,dx;go_wp2;go_ret;exact⟨rfl,(dk _ _).alloc (hU _) _⟩
 .have b:¬(n:Int)<=65536:=by omega
  clear h;go_enter dw,dx;go_wp2;go_ret;exact⟨rfl,(dk _ _).alloc (hU _) _⟩
def pG(a:Option ah)(n c n' b:Nat):(K a n c).ownBlock=(K a n' b).ownBlock:=by cases a<;>rfl
def vX(w:U)(b n p h d a:Nat)(c:Array X)(S:aw)(r:w.heap[p]?=N (W c S (0,0)))(m:c[0]?=N (J I h))(o:c[1]?=N (J I d))(l:c[2]?=N (J I a))
 (q:(⟨h,d,a⟩:Sz).B9=ac)(y:h<=4611686018427387904)(t:d<=4611686018427387904)(s:a<=4611686018427387904):
 ae Y 220 #[Z b,n,G 181 (Z p)] w λe w'=>e=du [{v:=G 29 (J I 3),recovered:=ac}]/\ag w w w':=by
 have B:=qK r m o l;have x:=A (λi=>jF i h d a);have u:=A (λi=>aAL i h d a q y t s);clear r m o l q;go_enter cu,cw;go_wp2_with fail;refine(x.o _).mono ?_;rintro e w1 ⟨rfl,g⟩;have j:=A g;clear g;go_wp2_with fail;refine(u.o _).mono ?_;rintro e w2 ⟨rfl,f⟩;have k:=A (chain j.o f);clear f;go_wp2_with fail;refine(wZ _ 3).mono ?_;rintro e z ⟨rfl,rfl⟩;go_wp2_with fail;exact⟨rfl,rfl,k.o⟩
def vY(w:U)(b n p C F L:Nat)(c:Array X)(S:aw)(V:X)(a:List X)(P:w.heap[p]?=N (W c S (0,0)))(m:c[0]?=N (J I C))(t:c[1]?=N (J I F))(f:c[2]?=N (J I L))
 (v:(⟨C,F,L⟩:Sz).B9=Q)(a0:w.heap[b]?=N (W #[V] 195 (0,0)))(i:Win 97 id w V a)(x:a.length<=1048576)(hn:n<=a.length):
 ae Y 220 #[Z b,n,G 181 (Z p)] w λe w'=>e=ar (.tuple #[])/\jX w b V a (a.length-n) 181 (Z p) w':=by
 have hm:=qK P m t f;have HS:=A (λR=>jF R C F L);have HO:=A (λR=>kS R C F L v);obtain⟨k,T⟩:∃k,a.length-n=k:=⟨_,rfl⟩;rw[T];have i0:I.wrap ((a.length:Int)-(n:Int))=(k:Int):=by rw[b9];omega
 have i1:(0:Int)<=(k:Int):=by omega
 have i2:(k:Int)<=(a.length:Int):=by omega
 have o:k<=a.length:=by omega
 have g0:=A (i.ne a0 (by decide));have H:=A a0;have s:=A (And.intro x o)
 obtain⟨r,d,g1,i3,h⟩:∃r d,V=K r a.length d/\a.length<=d/\Win 97 id w (K r k d) (a.take k):=by
  rcases i with⟨rfl,rfl⟩|⟨g,off,cap,l,rfl,z,y,B,hm,hi⟩
  .have:k=0:=(by simp at o;exact o);subst this;exact⟨O,0,rfl,hU _,.nil _ _ _⟩
  .exact⟨_,cap,rfl,y,Win.B3 (n:=a.length) (bj ⟨g,off,cap,l,rfl,z,y,B,hm,hi⟩) o⟩
 have i4:(k:Int)<=(d:Int):=by omega
 have g2:=A h;clear P m t f v a0 i x h;subst g1;go_enter cu,cw;go_wp2_with fail;refine(HS.o _).mono ?_;rintro e w1 ⟨rfl,h⟩;have g3:=A h;clear h;go_wp2_with fail;refine(HO.o _).mono ?_;rintro e w2 ⟨rfl,h⟩;have i:=chain g3.o h;have f:=keep H.o i;have g4:=bp f;have g5:=cz f;have g6:=A f;have HB:=A i;have h9:=bg f;clear h i f;go_wp2_with fail;refine(dT _ 3).mono ?_;rintro e f ⟨rfl,rfl⟩;have i:Keeps (λ_=>False) f (f.drew.alloc (W #[G 181 (Z p)] 97)):=((bh _ f).B0).A5 _;have l:=((g2.o.A0 (bx (λ_=>False) HB.o) (λ_ _=>id)).A0 i (λ_ _=>id)).Q3;rw[pr,show(a.take k).length=k by rw[el];omega]at l
 have h:∀j u,([G 181 (Z p)]:List X)[j]?=N u->(f.drew.alloc (W #[G 181 (Z p)] 97)).cell? ((⟨f.heap.size,0,O⟩:ah).add j)=N u:=by
  intro j u m;have P:(⟨f.heap.size,0,O⟩:ah).add j=⟨f.heap.size,j,O⟩:=by unfold bz;split<;>simp_all
  rw[P];show(f.drew.alloc _).cell? ⟨f.drew.heap.size,j,O⟩=_;rw[aA (aL f.drew _)];simpa using m
 have m:∀u∈([G 181 (Z p)]:List X),u.oneCell'=Q:=λu hu=>by simp at hu;subst hu;rfl
 have t:(k+1)*16<=140737488355328:=by have:=s.o;omega
 have v:k+1<=bm:=by have:=s.o;unfold bm;omega
 have g7:=A l;have x:=A h;have g8:=A m;have g9:=A t;have h3:=A v;have h4:=A (i.B4 g6.o id);have y:=A (show(K r k d).ownBlock≠N b by rw[pG r k d a.length d];exact g0.o);clear l h m t v i;go_wp2
 go_region_law (refine bP l9 rfl _ _ rfl rfl g7.o f 1 1 [G 181 (Z p)] rfl rfl x.o g8.o (by decide) g9.o h3.o ?_;intro z t v w' i l h;have h:Keeps (λq=>(K r k d).ownBlock=N q) (f.drew.alloc (W #[G 181 (Z p)] 97)) w':=h;have l:(K r k d).ownBlock=N z\/(f.drew.alloc (W #[G 181 (Z p)] 97)).heap.size<=z/\z<w'.heap.size:=l;have m:=h.B4 h4.o y.o;have i5:=bp m;have i6:=cz m)
 all_goals
  have h5:=A m;have B:=A i;rw[pG r k d a.length d]at l h;have h6:=A l;have h7:=A h;have h8:=A (i.ne m (by decide));clear m i l h g4 g5;go_wp2;go_end0;have i:Keeps (λk=>k=b) w' (w'.setCell b (K (z,t) (k+1) v)):=(bh (λk=>k=b) w').A3 (p:=b) (ao rfl) _;refine⟨rfl,z,t,v,aB h5.o _,?_,?_,?_⟩
  .refine co (n:=k+1) ?_;rw[pr];exact B.o.A0 i (λk e T=>h8.o (e.trans (congrArg N T)))
  .exact h6.o.imp id (λa0=>bo HB.o.size (bo (by simp) a0.1))
  .exact((((bx (λk=>k=b\/(K r a.length d).ownBlock=N k) HB.o).B0.A5 _).same (h7.o.mono (λk e=>bj e)))).same (i.mono (λk e=>ao e))
def sE(w:U)(b n p h d a:Nat)(c:Array X)(S:aw)(r:w.heap[p]?=N (W c S (0,0)))(m:c[0]?=N (J I h))(o:c[1]?=N (J I d))(l:c[2]?=N (J I a))
 (q:(⟨h,d,a⟩:Sz).B9=ac)(y:h<=4611686018427387904)(t:d<=4611686018427387904)(s:a<=4611686018427387904):
 ae Y 220 #[Z b,n,G 187 (Z p)] w λe w'=>e=du [{v:=G 29 (J I 3),recovered:=ac}]/\ag w w w':=by
 have B:=qL r m o l;have x:=A (λi=>jF i h d a);have u:=A (λi=>aAL i h d a q y t s);clear r m o l q;go_enter cu,cw;go_wp2_with fail;refine(x.o _).mono ?_;rintro e w1 ⟨rfl,g⟩;have j:=A g;clear g;go_wp2_with fail;refine(u.o _).mono ?_;rintro e w2 ⟨rfl,f⟩;have k:=A (chain j.o f);clear f;go_wp2_with fail;refine(wZ _ 3).mono ?_;rintro e z ⟨rfl,rfl⟩;go_wp2_with fail;exact⟨rfl,rfl,k.o⟩
def lO(w:U)(b n p C F L:Nat)(c:Array X)(S:aw)(V:X)(a:List X)(P:w.heap[p]?=N (W c S (0,0)))(m:c[0]?=N (J I C))(t:c[1]?=N (J I F))(f:c[2]?=N (J I L))
 (v:(⟨C,F,L⟩:Sz).B9=Q)(a0:w.heap[b]?=N (W #[V] 195 (0,0)))(i:Win 97 id w V a)(x:a.length<=1048576)(hn:n<=a.length):
 ae Y 220 #[Z b,n,G 187 (Z p)] w λe w'=>e=ar (.tuple #[])/\jX w b V a (a.length-n) 187 (Z p) w':=by
 have hm:=qL P m t f;have HS:=A (λR=>jF R C F L);have HO:=A (λR=>kS R C F L v);obtain⟨k,T⟩:∃k,a.length-n=k:=⟨_,rfl⟩;rw[T];have i0:I.wrap ((a.length:Int)-(n:Int))=(k:Int):=by rw[b9];omega
 have i1:(0:Int)<=(k:Int):=by omega
 have i2:(k:Int)<=(a.length:Int):=by omega
 have o:k<=a.length:=by omega
 have g0:=A (i.ne a0 (by decide));have H:=A a0;have s:=A (And.intro x o)
 obtain⟨r,d,g1,i3,h⟩:∃r d,V=K r a.length d/\a.length<=d/\Win 97 id w (K r k d) (a.take k):=by
  rcases i with⟨rfl,rfl⟩|⟨g,off,cap,l,rfl,z,y,B,hm,hi⟩
  .have:k=0:=(by simp at o;exact o);subst this;exact⟨O,0,rfl,hU _,.nil _ _ _⟩
  .exact⟨_,cap,rfl,y,Win.B3 (n:=a.length) (bj ⟨g,off,cap,l,rfl,z,y,B,hm,hi⟩) o⟩
 have i4:(k:Int)<=(d:Int):=by omega
 have g2:=A h;clear P m t f v a0 i x h;subst g1;go_enter cu,cw;go_wp2_with fail;refine(HS.o _).mono ?_;rintro e w1 ⟨rfl,h⟩;have g3:=A h;clear h;go_wp2_with fail;refine(HO.o _).mono ?_;rintro e w2 ⟨rfl,h⟩;have i:=chain g3.o h;have f:=keep H.o i;have g4:=bp f;have g5:=cz f;have g6:=A f;have HB:=A i;have h9:=bg f;clear h i f;go_wp2_with fail;refine(dT _ 3).mono ?_;rintro e f ⟨rfl,rfl⟩;have i:Keeps (λ_=>False) f (f.drew.alloc (W #[G 187 (Z p)] 97)):=((bh _ f).B0).A5 _;have l:=((g2.o.A0 (bx (λ_=>False) HB.o) (λ_ _=>id)).A0 i (λ_ _=>id)).Q3;rw[pr,show(a.take k).length=k by rw[el];omega]at l
 have h:∀j u,([G 187 (Z p)]:List X)[j]?=N u->(f.drew.alloc (W #[G 187 (Z p)] 97)).cell? ((⟨f.heap.size,0,O⟩:ah).add j)=N u:=by
  intro j u m;have P:(⟨f.heap.size,0,O⟩:ah).add j=⟨f.heap.size,j,O⟩:=by unfold bz;split<;>simp_all
  rw[P];show(f.drew.alloc _).cell? ⟨f.drew.heap.size,j,O⟩=_;rw[aA (aL f.drew _)];simpa using m
 have m:∀u∈([G 187 (Z p)]:List X),u.oneCell'=Q:=λu hu=>by simp at hu;subst hu;rfl
 have t:(k+1)*16<=140737488355328:=by have:=s.o;omega
 have v:k+1<=bm:=by have:=s.o;unfold bm;omega
 have g7:=A l;have x:=A h;have g8:=A m;have g9:=A t;have h3:=A v;have h4:=A (i.B4 g6.o id);have y:=A (show(K r k d).ownBlock≠N b by rw[pG r k d a.length d];exact g0.o);clear l h m t v i;go_wp2
 go_region_law (refine bP l9 rfl _ _ rfl rfl g7.o f 1 1 [G 187 (Z p)] rfl rfl x.o g8.o (by decide) g9.o h3.o ?_;intro z t v w' i l h;have h:Keeps (λq=>(K r k d).ownBlock=N q) (f.drew.alloc (W #[G 187 (Z p)] 97)) w':=h;have l:(K r k d).ownBlock=N z\/(f.drew.alloc (W #[G 187 (Z p)] 97)).heap.size<=z/\z<w'.heap.size:=l;have m:=h.B4 h4.o y.o;have i5:=bp m;have i6:=cz m)
 all_goals
  have h5:=A m;have B:=A i;rw[pG r k d a.length d]at l h;have h6:=A l;have h7:=A h;have h8:=A (i.ne m (by decide));clear m i l h g4 g5;go_wp2;go_end0;have i:Keeps (λk=>k=b) w' (w'.setCell b (K (z,t) (k+1) v)):=(bh (λk=>k=b) w').A3 (p:=b) (ao rfl) _;refine⟨rfl,z,t,v,aB h5.o _,?_,?_,?_⟩
  .refine co (n:=k+1) ?_;rw[pr];exact B.o.A0 i (λk e T=>h8.o (e.trans (congrArg N T)))
  .exact h6.o.imp id (λa0=>bo HB.o.size (bo (by simp) a0.1))
  .exact((((bx (λk=>k=b\/(K r a.length d).ownBlock=N k) HB.o).B0.A5 _).same (h7.o.mono (λk e=>bj e)))).same (i.mono (λk e=>ao e))
