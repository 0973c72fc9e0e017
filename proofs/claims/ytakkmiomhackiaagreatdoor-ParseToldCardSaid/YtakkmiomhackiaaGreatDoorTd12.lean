/-
  The program, one part of its walk. Conditions: none.
-/
import Derived.Test.YtakkmiomhackiaaGreatDoorTd11
import Derived.Deep.RegionLaw
import Derived.Deep.AppendLies
set_option linter.all false
set_option maxRecDepth 100000
set_option maxHeartbeats 16000000
open Go.Proofs.Tryz
open Bool renaming false->G,true->ac
open Go renaming Addr->ai,Calls->ae,TypeId->az,Value->W,World->U,bodyPost_ret->av,cell_of_one->bp,free_of_one->cu,heap_alloc_new->bs,loadVar->cw,lt_of_block->ag,maxLen->bm,method->ba,results->aw
open Go.Addr renaming add->bx
open Go.Ending renaming panicked->dp,returned->au
open Go.IntKind renaming i64->N,wrap_i64->dq
open Go.Lib renaming run_eql_slice_nil->ep
open Go.Obj renaming cells->V
open Go.Proofs.Tryz renaming func219->ck,func220->cr,func235->dt,func238->dj,ntmps219->co,ntmps220->ct,ntmps235->du,ntmps238->dl,prog->X,results221->ek,results238->dm,t181->dv,t187->dw,underlying184->di
open Go.Proofs.YtakkmiomhackiaaGreatDoor.Keeps renaming A1->bw,A3->bc
open Go.Proofs.YtakkmiomhackiaaGreatDoor.Sz renaming C3->cz
open Go.Proofs.YtakkmiomhackiaaGreatDoor.Tr renaming A7->ak
open Go.Proofs.YtakkmiomhackiaaGreatDoor.aR renaming I4->cj
open Go.Result renaming andThen_ok->bz,ok->af
open Go.RowKit renaming Below->ah
open Go.RowKit.Below renaming heap_alloc->dh,refl->ao
open Go.Sem renaming run_bind->bj,run_pure->dx
open Go.Value renaming agg->E,bool->bh,iface->K,int->O,pointer->Y,slice->Z
open List renaming attach_map_val->dy,eq_nil_of_length_eq_zero->ee,getElem?_eq_getElem->eo,length_take->cg,map_id->cv,setIfInBounds_toArray->eh,set_cons_succ->ej,set_cons_zero->ei
open Max renaming max->aj
open Nat renaming le_of_lt->bk,le_refl->H,le_trans->bu,zero_le->em
open Option renaming none->J,some->I
open Or renaming inl->ar,inr->bg
namespace Go.Proofs.YtakkmiomhackiaaGreatDoor
open Go.RowKit
def szV(z:Sz):W:=E #[O N z.nodes,O N z.bytes,O N z.depth]
theorem vE(w:U):ae X 343 #[E #[]] w λe w'=>e=au (E #[O N 1,O N 0,O N 1])/\ah w.heap.size w w':=by
 go_enter func343,ntmps343;go_wp2;exact av (v:=E #[O N 1,O N 0,O N 1]) (by simp[aw,results343,go_sem]) rfl ⟨rfl,((ao _ _).alloc (H _) _).alloc (by simp) _⟩
theorem vF(w:U)(b:Bool):ae X 345 #[bh b] w λe w'=>e=au (E #[O N 1,O N 0,O N 1])/\ah w.heap.size w w':=by
 go_enter func345,ntmps345;go_wp2;exact av (v:=E #[O N 1,O N 0,O N 1]) (by simp[aw,results345,go_sem]) rfl ⟨rfl,(ao _ _).alloc (H _) _⟩
theorem iX(w:U)(n b d:Nat):ae X 351 #[E #[O N n,O N b,O N d]] w λe w'=>e=au (E #[O N n,O N b,O N d])/\ah w.heap.size w w':=by
 go_enter func351,ntmps351;go_wp2;exact av (v:=E #[O N n,O N b,O N d]) (by simp[aw,results351,go_sem]) rfl ⟨rfl,((ao _ _).alloc (H _) _).alloc (by simp) _⟩
theorem aDs(w:U)(b:Nat):(follow [⟨186,0,ac⟩] 181 (.val (Y (I ⟨b,0,J⟩)))).run X w=af (183,.var ⟨b,0,J⟩) w:=by kernel_rfl
theorem aHY(w:U):(typeInfo 181).run X w=af dv w:=by kernel_rfl
theorem aDt(w:U)(b:Nat):(follow [⟨189,0,ac⟩] 187 (.val (Y (I ⟨b,0,J⟩)))).run X w=af (183,.var ⟨b,0,J⟩) w:=by kernel_rfl
theorem aHZ(w:U):(typeInfo 187).run X w=af dw w:=by kernel_rfl
theorem aBC(w:U)(a:ai):(receiverAt 183 (.var a) G J).run X w=(cw 183 a).run X w:=by kernel_rfl
theorem aBD{w:U}{b:Nat}{c:Array W}{T:az}{f e d:W}(h:w.heap[b]?=I (V c T (0,0)))(m:c[0]?=I f)(l:c[1]?=I e)(k:c[2]?=I d):(cw 183 ⟨b,0,J⟩).run X w=af (E #[f,e,d]) w:=by
 have g:=run_loadCells_list (P:=X) w ⟨b,0,J⟩ [f,e,d] (λj v a=>by
  have i:(⟨b,0,J⟩:ai).add j=⟨b,j,J⟩:=by unfold bx;split<;>simp_all
  rw[i,aA h]
  match j,a with
  | 0,a=>cases a;exact m
  | 1,a=>cases a;exact l
  | 2,a=>cases a;exact k
  | j+3,a=>simp at a)
 simp[cw];simp at g;rw[g];rfl
theorem pD{w:U}{b:Nat}{c:Array W}{S:az}{e d a:W}(h:w.heap[b]?=I (V c S (0,0)))(j:c[0]?=I e)(i:c[1]?=I d)(g:c[2]?=I a):
 (ba 565 181 (Y (I ⟨b,0,J⟩)) "affidavit/node.sized").run X w=af (351,E #[e,d,a]) w:=by
 have f:dv.methods.find? (·.name== "affidavit/node.sized")=I ⟨ "affidavit/node.sized",388,#[⟨186,0,ac⟩],I (351,G)⟩:=by kernel_rfl
 unfold ba;rw[bj,aHY];simp only[bz,f];rw[bj,aDs];simp only[bz];rw[bj];simp[aBC,dx,aBD h j i g]
theorem pE{w:U}{b:Nat}{c:Array W}{S:az}{e d a:W}(h:w.heap[b]?=I (V c S (0,0)))(j:c[0]?=I e)(i:c[1]?=I d)(g:c[2]?=I a):
 (ba 565 187 (Y (I ⟨b,0,J⟩)) "affidavit/node.sized").run X w=af (351,E #[e,d,a]) w:=by
 have f:dw.methods.find? (·.name== "affidavit/node.sized")=I ⟨ "affidavit/node.sized",388,#[⟨189,0,ac⟩],I (351,G)⟩:=by kernel_rfl
 unfold ba;rw[bj,aHZ];simp only[bz,f];rw[bj,aDt];simp only[bz];rw[bj];simp[aBC,dx,aBD h j i g]
theorem jG(l:List Tr):(Tr.list l).A7=fX 0 (l.map ak):=by
 rw[ak];congr 1;exact dy
theorem j3(k:List (List UInt8))(l:List Tr):(Tr.object k l).A7=fX (bA k) (l.map ak):=by
 rw[ak];congr 1;exact dy
def cP(bytes:Nat)(l:List Sz):Sz:=l.foldl (λ(a z:Sz)=>(⟨a.nodes+z.nodes,a.bytes+z.bytes,aj a.depth z.depth⟩:Sz)) ⟨1,bytes,0⟩
theorem aBE(bytes:Nat)(l:List Sz)(z:Sz):cP bytes (l++ [z])=⟨(cP bytes l).nodes+z.nodes,(cP bytes l).bytes+z.bytes,aj (cP bytes l).depth z.depth⟩:=by
 unfold cP;rw[List.foldl_append];rfl
theorem kT(bytes:Nat)(l:List Sz):fX bytes l=⟨(cP bytes l).nodes,(cP bytes l).bytes,(cP bytes l).depth+1⟩:=rfl
theorem aBF{bytes:Nat}{l:List Sz}{i:Nat}{z:Sz}(h:l[i]?=I z):cP bytes (l.take (i+1))=⟨(cP bytes (l.take i)).nodes+z.nodes,(cP bytes (l.take i)).bytes+z.bytes,aj (cP bytes (l.take i)).depth z.depth⟩:=by
 rw[<-aBE,List.take_add_one,h];rfl
theorem qU:∀(l:List Sz)(a:Sz),(∀z∈l,z.C3=ac)->a.depth<=512->
 (l.foldl (λ(a z:Sz)=>(⟨a.nodes+z.nodes,a.bytes+z.bytes,aj a.depth z.depth⟩:Sz)) a).nodes<=a.nodes+l.length*65536/\
 (l.foldl (λ(a z:Sz)=>(⟨a.nodes+z.nodes,a.bytes+z.bytes,aj a.depth z.depth⟩:Sz)) a).bytes<=a.bytes+l.length*2097152/\
 (l.foldl (λ(a z:Sz)=>(⟨a.nodes+z.nodes,a.bytes+z.bytes,aj a.depth z.depth⟩:Sz)) a).depth<=512
 | [],a,_,b=>⟨by simp,by simp,b⟩
 | z::l,a,h,b=>by
  have d:=h z (by simp);simp[cz]at d;have:=qU l ⟨a.nodes+z.nodes,a.bytes+z.bytes,aj a.depth z.depth⟩ (λy c=>h y (List.mem_cons_of_mem _ c)) (by simp only[];omega);simp only[List.foldl_cons,List.length_cons]at this⊢;omega
theorem qV{bytes:Nat}{l:List Sz}(h:∀z∈l,z.C3=ac):(cP bytes l).nodes<=1+l.length*65536/\(cP bytes l).bytes<=bytes+l.length*2097152/\(cP bytes l).depth<=512:=
 qU l ⟨1,bytes,0⟩ h (by simp)
def nL(w:U)(bytes:Nat)(a:List Sz)(i:Nat)(wr:U):Prop:=
 wr.heap[w.heap.size]?=I (V #[O N 0,O N 0,O N 0] 183 (0,0))/\wr.heap[w.heap.size+1]?=I (V #[O N (cP bytes (a.take i)).nodes,O N (cP bytes (a.take i)).bytes,O N (cP bytes (a.take i)).depth] 183 (0,0))/\ah w.heap.size w wr
theorem nL.I8{w b:U}{bytes i:Nat}{d:List Sz}{a z:Sz}{h j l:Int}(m:b.heap[w.heap.size+1]?=I (V #[O N a.nodes,O N a.bytes,O N a.depth] 183 (0,0)))(s:b.heap[w.heap.size]?=I (V #[O N 0,O N 0,O N 0] 183 (0,0)))
 (f:ah w.heap.size w b)(t:cP bytes (d.take (i+1))=⟨a.nodes+z.nodes,a.bytes+z.bytes,aj a.depth z.depth⟩)(q:h=((a.nodes+z.nodes:Nat):Int))(r:j=((a.bytes+z.bytes:Nat):Int))(n:l=((aj a.depth z.depth:Nat):Int))(o:Obj):
 nL w bytes d (i+1) ((((b.setCell ⟨w.heap.size+1,0,J⟩ (O N h)).setCell ⟨w.heap.size+1,1,J⟩ (O N j)).setCell ⟨w.heap.size+1,2,J⟩ (O N l)).alloc o):=by
 subst q;subst r;subst n;have c:=ag m
 have g:Keeps (λk=>k=w.heap.size+1) b ((((b.setCell ⟨w.heap.size+1,0,J⟩ (O N ((a.nodes+z.nodes:Nat):Int))).setCell ⟨w.heap.size+1,1,J⟩ (O N ((a.bytes+z.bytes:Nat):Int))).setCell ⟨w.heap.size+1,2,J⟩ (O N ((aj a.depth z.depth:Nat):Int))).alloc o):=
  ((((bc (λk=>k=w.heap.size+1) b).A2 (p:=⟨w.heap.size+1,0,J⟩) (ar rfl) _).A2 (p:=⟨w.heap.size+1,1,J⟩) (ar rfl) _).A2 (p:=⟨w.heap.size+1,2,J⟩) (ar rfl) _).A4 _
 refine⟨g.C4 s (by omega),?_,f.trans (g.B3 f.size (λk e=>by omega))⟩;rw[t];exact(dh _ _ _ (by simpa[World.setCell]using c)).trans (aB (aB (aB m _) _) _)
theorem mL(F:Nat->Prop)(w:U)(a0:W)(d:List W)(items:List Tr)(bytes:Nat)(hw:Win 97 id w a0 d)(ht:dZ F w d items)(hin:∀t∈items,t.A7.C3=ac)(hlen:items.length<=65536)(hby:bytes<=1073741824):
 ae X 221 #[a0,O N bytes] w λe w'=>e=au (szV (fX bytes (items.map ak)))/\ah w.heap.size w w':=by
 obtain⟨zs,hzs⟩:∃zs,items.map ak=zs:=⟨_,rfl⟩;have hzl:zs.length=d.length:=by rw[<-hzs,List.length_map,ht.1]
 have hzw:∀z∈zs,z.C3=ac:=λz hz=>by
  rw[<-hzs]at hz;obtain⟨t,h1,rfl⟩:=List.mem_map.1 hz;exact hin t h1
 have hvl:d.length<=65536:=by rw[ht.1];exact hlen
 have hbnd:∀i,(cP bytes (zs.take i)).nodes<=4294967297/\(cP bytes (zs.take i)).bytes<=138512695296/\(cP bytes (zs.take i)).depth<=512:=λi=>by
  have:=qV (bytes:=bytes) (l:=zs.take i) (λz hz=>hzw z (List.mem_of_mem_take hz));have hl:(zs.take i).length<=65536:=by rw[cg];omega
  omega
 rw[hzs,kT];have HZS:=L hzs;have HT:=L ht;have HWN:=L hw;have HBND:=L hbnd;have HZL:=L hzl;have HZW:=L hzw
 have hinit:nL w bytes zs 0 ((w.alloc (V #[O N 0,O N 0,O N 0] 183)).alloc (V #[O N 1,O N bytes,O N 0] 183)):=by
  refine⟨(dh _ _ _ (by simp)).trans (bs w _),?_,((ao _ _).alloc (H _) _).alloc (by simp) _⟩;have:=bs (w.alloc (V #[O N 0,O N 0,O N 0] 183)) (V #[O N 1,O N bytes,O N 0] 183);rw[World.size_alloc]at this;exact this
 have HI:=L hinit;obtain⟨va,vc,hV⟩:=hw.A8;subst hV;clear hzs hzl hzw hbnd ht hw hin hlen hinit;rcases Nat.eq_zero_or_pos d.length with h0|h0
 .rw[h0];have HV0:=L h0;clear h0;go_enter func221,ntmps221;go_wp2_with fail
  go_loopw [13] (λv wr=>v=O N 0/\M (nL w bytes zs 0 wr)) (λ_ _=>0)
  case atStart=>exact⟨rfl,HI⟩
  case round=>
   obtain⟨rfl,HS⟩:=hrel;obtain⟨u,q,h⟩:=HS.o;obtain⟨a,ha⟩:∃a,cP bytes (zs.take 0)=a:=⟨_,rfl⟩;rw[ha]at q;have hab:a=⟨1,bytes,0⟩:=ha.symm;have hz0:zs= []:=ee (by rw[HZL.o,HV0.o]);have HA2:=L (show cP bytes zs=a by rw[<-ha,hz0];rfl);have q0:wr.cell? ⟨w.heap.size+1,0,J⟩=I (O N a.nodes):=by rw[aA q];rfl
   have q1:wr.cell? ⟨w.heap.size+1,1,J⟩=I (O N a.bytes):=by rw[aA q];rfl
   have q2:wr.cell? ⟨w.heap.size+1,2,J⟩=I (O N a.depth):=by rw[aA q];rfl
   have qf:∀o,wr.frozen? ⟨w.heap.size+1,o,J⟩=G:=free_at q;have r0:wr.cell? ⟨w.heap.size,0,J⟩=I (O N 0):=by rw[aA u];rfl
   have r1:wr.cell? ⟨w.heap.size,1,J⟩=I (O N 0):=by rw[aA u];rfl
   have r2:wr.cell? ⟨w.heap.size,2,J⟩=I (O N 0):=by rw[aA u];rfl
   have rf:∀o,wr.frozen? ⟨w.heap.size,o,J⟩=G:=free_at u;have hab3:a.depth<=512:=by rw[hab];simp
   have S:=L u;have T:=L h;clear u q h ha hab hz0 HI;go_wp2_with fail;rw[HA2.o];have hk1:Keeps (λk=>k=w.heap.size+1) wr (wr.setCell ⟨w.heap.size+1,2,J⟩ (O N ((a.depth:Int)+1))):=(bc (λk=>k=w.heap.size+1) wr).A2 (p:=⟨w.heap.size+1,2,J⟩) (ar rfl) _;have hr1:=hk1.C4 S.o (by omega);have m:=aB (aB (aB hr1 (o:=0) (O N a.nodes)) (o:=1) (O N a.bytes)) (o:=2) (O N ((a.depth:Int)+1));simp only[eh,ei,ej]at m;have hbl:=((((T.o.setCell (p:=⟨w.heap.size+1,2,J⟩) (by simp) (O N ((a.depth:Int)+1))).setCell (p:=⟨w.heap.size,0,J⟩) (H _) (O N a.nodes)).setCell (p:=⟨w.heap.size,1,J⟩) (H _) (O N a.bytes)).setCell (p:=⟨w.heap.size,2,J⟩) (H _) (O N ((a.depth:Int)+1)));obtain⟨Wf,hWf⟩:∃Wf,((((wr.setCell ⟨w.heap.size+1,2,J⟩ (O N ((a.depth:Int)+1))).setCell ⟨w.heap.size,0,J⟩ (O N a.nodes)).setCell ⟨w.heap.size,1,J⟩ (O N a.bytes)).setCell ⟨w.heap.size,2,J⟩ (O N ((a.depth:Int)+1)))=Wf:=⟨_,rfl⟩;rw[hWf]at m hbl⊢;have y0:Wf.cell? ⟨w.heap.size,0,J⟩=I (O N a.nodes):=by rw[aA m];rfl
   have y1:Wf.cell? ⟨w.heap.size,1,J⟩=I (O N a.bytes):=by rw[aA m];rfl
   have y2:Wf.cell? ⟨w.heap.size,2,J⟩=I (O N ((a.depth:Int)+1)):=by rw[aA m];rfl
   exact av (v:=E #[O N a.nodes,O N a.bytes,O N ((a.depth:Int)+1)]) (by simp[aw,ek,go_sem,y0,y1,y2]) rfl ⟨rfl,hbl⟩
 .obtain⟨g,off,cur,rfl,hgb,hcell⟩:∃g off cur,va=I ⟨g,off,J⟩/\w.heap[g]?=I (V cur 97 (0,0))/\∀i x,d[i]?=I x->cur[off+i]?=I x:=by
   rcases HWN.o with⟨hv,hn⟩|⟨g,off,cap,cur,hv,hg,hc,ho,hm,hi⟩
   .rw[hn]at h0;simp at h0
   .cases hv;exact⟨g,off,cur,rfl,hg,hi⟩
  have hgl:=ag hgb;have HGB:=L hgb;have HCL:=L hcell;clear hgb hcell h0;go_enter func221,ntmps221;go_wp2_with fail
  go_loopw [13] (λv wr=>∃i:Nat,v=O N i/\i<=d.length/\M (nL w bytes zs i wr)) (λv _=>d.length-(intOf v).toNat)
  case atStart=>exact⟨0,rfl,em _,HI⟩
  case round=>
   obtain⟨i,rfl,hin,HS⟩:=hrel;clear HI;obtain⟨u,q,h⟩:=HS.o;obtain⟨a,ha⟩:∃a,cP bytes (zs.take i)=a:=⟨_,rfl⟩;have hab:=HBND.o i;rw[ha]at q hab;obtain⟨hab1,hab2,hab3⟩:=hab;have q0:wr.cell? ⟨w.heap.size+1,0,J⟩=I (O N a.nodes):=by rw[aA q];rfl
   have q1:wr.cell? ⟨w.heap.size+1,1,J⟩=I (O N a.bytes):=by rw[aA q];rfl
   have q2:wr.cell? ⟨w.heap.size+1,2,J⟩=I (O N a.depth):=by rw[aA q];rfl
   have qf:∀o,wr.frozen? ⟨w.heap.size+1,o,J⟩=G:=free_at q;have r0:wr.cell? ⟨w.heap.size,0,J⟩=I (O N 0):=by rw[aA u];rfl
   have r1:wr.cell? ⟨w.heap.size,1,J⟩=I (O N 0):=by rw[aA u];rfl
   have r2:wr.cell? ⟨w.heap.size,2,J⟩=I (O N 0):=by rw[aA u];rfl
   have rf:∀o,wr.frozen? ⟨w.heap.size,o,J⟩=G:=free_at u;have hszr:=ag q;have S:=L u;have HS0:=L q;have HA:=L ha;have T:=L h
   by_cases hlt:i<d.length
   .have hlt2:(i:Int)<(d.length:Int):=by omega
    obtain⟨vi,hvi⟩:∃vi,d[i]?=I vi:=⟨_,eo hlt⟩;obtain⟨ti,hti⟩:∃ti,items[i]?=I ti:=⟨_,eo (by have:=HT.o.1;omega)⟩;obtain⟨j,y⟩:∃j,ti.A7=j:=⟨_,rfl⟩;have hzz:zs[i]?=I j:=by rw[<-HZS.o,List.getElem?_map,hti,<-y];rfl
    have htree:=HT.o.2 i vi ti hvi hti
    have hcv:wr.cell? ⟨g,off+i,J⟩=I vi:=by
     rw[aA ((h.block g hgl).trans HGB.o)];exact HCL.o i vi hvi
    have hzb:=HZW.o j (List.mem_of_getElem? hzz);have hzb2:j.nodes<=65536/\j.bytes<=2097152/\j.depth<=512:=by simp[cz]at hzb;omega
    obtain⟨hzb3,hzb4,-⟩:=hzb2;have R:=L (show cP bytes (zs.take (i+1))=⟨a.nodes+j.nodes,a.bytes+j.bytes,aj a.depth j.depth⟩ by rw[aBF hzz,ha]);clear hvi hti hzz hzb ha u q;cases htree with
    | null=>
     have hm:∀w:U,(ba 565 177 (E #[]) "affidavit/node.sized").run X w=af (343,E #[]) w:=λ_=>by kernel_rfl
     have A:=L (λw0=>vE w0);have hz1:j.nodes=1/\j.bytes=0/\j.depth=1:=by rw[<-y];simp[ak]
     clear y h;go_wp2_with fail;refine(A.o _).mono ?_;rintro e r ⟨rfl,f⟩;have c:=keep HS0.o f;have n:=keep S.o f;have d0:r.cell? ⟨w.heap.size+1,0,J⟩=I (O N a.nodes):=by rw[aA c];rfl
     have d1:r.cell? ⟨w.heap.size+1,1,J⟩=I (O N a.bytes):=by rw[aA c];rfl
     have d2:r.cell? ⟨w.heap.size+1,2,J⟩=I (O N a.depth):=by rw[aA c];rfl
     have df:∀o,r.frozen? ⟨w.heap.size+1,o,J⟩=G:=free_at c;have hsz4:=ag c
     have P:=L c;have C:=L n;have Q:=L (T.o.trans (f.mono (bk (by omega))));clear c n f q0 q1 q2 qf r0 r1 r2 rf hcv;go_wp2_with fail;refine⟨⟨i+1,by congr 1,by omega,L (nL.I8 P.o C.o Q.o R.o (by omega) (by omega) (by omega) _)⟩,?_⟩
     show d.length-((i:Int)+1).toNat<d.length-((i:Int)).toNat
     omega
    | flag b=>
     have hm:∀w:U,(ba 565 178 (bh b) "affidavit/node.sized").run X w=af (345,bh b) w:=λ_=>by kernel_rfl
     have A:=L (λw0=>vF w0 b);have hz1:j.nodes=1/\j.bytes=0/\j.depth=1:=by rw[<-y];simp[ak]
     clear y h;go_wp2_with fail;refine(A.o _).mono ?_;rintro e r ⟨rfl,f⟩;have c:=keep HS0.o f;have n:=keep S.o f;have d0:r.cell? ⟨w.heap.size+1,0,J⟩=I (O N a.nodes):=by rw[aA c];rfl
     have d1:r.cell? ⟨w.heap.size+1,1,J⟩=I (O N a.bytes):=by rw[aA c];rfl
     have d2:r.cell? ⟨w.heap.size+1,2,J⟩=I (O N a.depth):=by rw[aA c];rfl
     have df:∀o,r.frozen? ⟨w.heap.size+1,o,J⟩=G:=free_at c;have hsz4:=ag c
     have P:=L c;have C:=L n;have Q:=L (T.o.trans (f.mono (bk (by omega))));clear c n f q0 q1 q2 qf r0 r1 r2 rf hcv;go_wp2_with fail;refine⟨⟨i+1,by congr 1,by omega,L (nL.I8 P.o C.o Q.o R.o (by omega) (by omega) (by omega) _)⟩,?_⟩
     show d.length-((i:Int)+1).toNat<d.length-((i:Int)).toNat
     omega
    | num x=>
     have hm:∀w:U,(ba 565 179 (.float .f64 x) "affidavit/node.sized").run X w=af (347,.float .f64 x) w:=λ_=>by kernel_rfl
     have A:=L (λw0=>yY w0 x);have hz1:j.nodes=1/\j.bytes=0/\j.depth=1:=by rw[<-y];simp[ak]
     clear y h;go_wp2_with fail;refine(A.o _).mono ?_;rintro e r ⟨rfl,f⟩;have c:=keep HS0.o f;have n:=keep S.o f;have d0:r.cell? ⟨w.heap.size+1,0,J⟩=I (O N a.nodes):=by rw[aA c];rfl
     have d1:r.cell? ⟨w.heap.size+1,1,J⟩=I (O N a.bytes):=by rw[aA c];rfl
     have d2:r.cell? ⟨w.heap.size+1,2,J⟩=I (O N a.depth):=by rw[aA c];rfl
     have df:∀o,r.frozen? ⟨w.heap.size+1,o,J⟩=G:=free_at c;have hsz4:=ag c
     have P:=L c;have C:=L n;have Q:=L (T.o.trans (f.mono (bk (by omega))));clear c n f q0 q1 q2 qf r0 r1 r2 rf hcv;go_wp2_with fail;refine⟨⟨i+1,by congr 1,by omega,L (nL.I8 P.o C.o Q.o R.o (by omega) (by omega) (by omega) _)⟩,?_⟩
     show d.length-((i:Int)+1).toNat<d.length-((i:Int)).toNat
     omega
    | text s=>
     obtain⟨sv,hsv⟩:∃sv:ByteArray,(⟨s.toArray⟩:ByteArray)=sv:=⟨_,rfl⟩;rw[hsv]at hcv;have hss:sv.size=s.length:=by rw[<-hsv];show s.toArray.size=_;simp
     have hm:∀w:U,(ba 565 180 (.string sv) "affidavit/node.sized").run X w=af (349,.string sv) w:=λ_=>by kernel_rfl
     have A:=L (λw0=>uX w0 sv);rw[hss]at A;have hz1:j.nodes=1/\j.bytes=s.length/\j.depth=1:=by rw[<-y];simp[ak]
     clear hsv hss;clear y h;go_wp2_with fail;refine(A.o _).mono ?_;rintro e r ⟨rfl,f⟩;have c:=keep HS0.o f;have n:=keep S.o f;have d0:r.cell? ⟨w.heap.size+1,0,J⟩=I (O N a.nodes):=by rw[aA c];rfl
     have d1:r.cell? ⟨w.heap.size+1,1,J⟩=I (O N a.bytes):=by rw[aA c];rfl
     have d2:r.cell? ⟨w.heap.size+1,2,J⟩=I (O N a.depth):=by rw[aA c];rfl
     have df:∀o,r.frozen? ⟨w.heap.size+1,o,J⟩=G:=free_at c;have hsz4:=ag c
     have P:=L c;have C:=L n;have Q:=L (T.o.trans (f.mono (bk (by omega))));clear c n f q0 q1 q2 qf r0 r1 r2 rf hcv;go_wp2_with fail;refine⟨⟨i+1,by congr 1,by omega,L (nL.I8 P.o C.o Q.o R.o (by omega) (by omega) (by omega) _)⟩,?_⟩
     show d.length-((i:Int)+1).toNat<d.length-((i:Int)).toNat
     omega
    | list b2 itemsV vals2 l2 hb2 D hw2 hlen2 ht2=>
     have B:=(h.block b2 (ag D)).trans D;have hm:=pD B rfl rfl rfl;rw[y]at hm;have A:=L (λw0=>iX w0 j.nodes j.bytes j.depth);have hz1:j.nodes=j.nodes/\j.bytes=j.bytes/\j.depth=j.depth:=⟨rfl,rfl,rfl⟩;clear D B hw2 ht2;clear y h;go_wp2_with fail;refine(A.o _).mono ?_;rintro e r ⟨rfl,f⟩;have c:=keep HS0.o f;have n:=keep S.o f;have d0:r.cell? ⟨w.heap.size+1,0,J⟩=I (O N a.nodes):=by rw[aA c];rfl
     have d1:r.cell? ⟨w.heap.size+1,1,J⟩=I (O N a.bytes):=by rw[aA c];rfl
     have d2:r.cell? ⟨w.heap.size+1,2,J⟩=I (O N a.depth):=by rw[aA c];rfl
     have df:∀o,r.frozen? ⟨w.heap.size+1,o,J⟩=G:=free_at c;have hsz4:=ag c
     have P:=L c;have C:=L n;have Q:=L (T.o.trans (f.mono (bk (by omega))));clear c n f q0 q1 q2 qf r0 r1 r2 rf hcv;go_wp2_with fail;refine⟨⟨i+1,by congr 1,by omega,L (nL.I8 P.o C.o Q.o R.o (by omega) (by omega) (by omega) _)⟩,?_⟩
     show d.length-((i:Int)+1).toNat<d.length-((i:Int)).toNat
     omega
    | object b2 keysV itemsV vals2 keys l2 hb2 D hk2 hw2 hlen2 ht2=>
     have B:=(h.block b2 (ag D)).trans D;have hm:=pE B rfl rfl rfl;rw[y]at hm;have A:=L (λw0=>iX w0 j.nodes j.bytes j.depth);have hz1:j.nodes=j.nodes/\j.bytes=j.bytes/\j.depth=j.depth:=⟨rfl,rfl,rfl⟩;clear D B hk2 hw2 ht2;clear y h;go_wp2_with fail;refine(A.o _).mono ?_;rintro e r ⟨rfl,f⟩;have c:=keep HS0.o f;have n:=keep S.o f;have d0:r.cell? ⟨w.heap.size+1,0,J⟩=I (O N a.nodes):=by rw[aA c];rfl
     have d1:r.cell? ⟨w.heap.size+1,1,J⟩=I (O N a.bytes):=by rw[aA c];rfl
     have d2:r.cell? ⟨w.heap.size+1,2,J⟩=I (O N a.depth):=by rw[aA c];rfl
     have df:∀o,r.frozen? ⟨w.heap.size+1,o,J⟩=G:=free_at c;have hsz4:=ag c
     have P:=L c;have C:=L n;have Q:=L (T.o.trans (f.mono (bk (by omega))));clear c n f q0 q1 q2 qf r0 r1 r2 rf hcv;go_wp2_with fail;refine⟨⟨i+1,by congr 1,by omega,L (nL.I8 P.o C.o Q.o R.o (by omega) (by omega) (by omega) _)⟩,?_⟩
     show d.length-((i:Int)+1).toNat<d.length-((i:Int)).toNat
     omega
   .have heq:i=d.length:=by omega
    subst heq;clear ha u q h;go_wp2_with fail;have ha:=HA.o;rw[List.take_of_length_le (Nat.le_of_eq HZL.o)]at ha;rw[ha];have hk1:Keeps (λk=>k=w.heap.size+1) wr (wr.setCell ⟨w.heap.size+1,2,J⟩ (O N ((a.depth:Int)+1))):=(bc (λk=>k=w.heap.size+1) wr).A2 (p:=⟨w.heap.size+1,2,J⟩) (ar rfl) _;have hr1:=hk1.C4 S.o (by omega);have m:=aB (aB (aB hr1 (o:=0) (O N a.nodes)) (o:=1) (O N a.bytes)) (o:=2) (O N ((a.depth:Int)+1));simp only[eh,ei,ej]at m;have hbl:=((((T.o.setCell (p:=⟨w.heap.size+1,2,J⟩) (by simp) (O N ((a.depth:Int)+1))).setCell (p:=⟨w.heap.size,0,J⟩) (H _) (O N a.nodes)).setCell (p:=⟨w.heap.size,1,J⟩) (H _) (O N a.bytes)).setCell (p:=⟨w.heap.size,2,J⟩) (H _) (O N ((a.depth:Int)+1)));obtain⟨Wf,hWf⟩:∃Wf,((((wr.setCell ⟨w.heap.size+1,2,J⟩ (O N ((a.depth:Int)+1))).setCell ⟨w.heap.size,0,J⟩ (O N a.nodes)).setCell ⟨w.heap.size,1,J⟩ (O N a.bytes)).setCell ⟨w.heap.size,2,J⟩ (O N ((a.depth:Int)+1)))=Wf:=⟨_,rfl⟩;rw[hWf]at m hbl⊢;have y0:Wf.cell? ⟨w.heap.size,0,J⟩=I (O N a.nodes):=by rw[aA m];rfl
    have y1:Wf.cell? ⟨w.heap.size,1,J⟩=I (O N a.bytes):=by rw[aA m];rfl
    have y2:Wf.cell? ⟨w.heap.size,2,J⟩=I (O N ((a.depth:Int)+1)):=by rw[aA m];rfl
    exact av (v:=E #[O N a.nodes,O N a.bytes,O N ((a.depth:Int)+1)]) (by simp[aw,ek,go_sem,y0,y1,y2]) rfl ⟨rfl,hbl⟩
theorem lW:kQ 184 97 1 16:=⟨di,by decide,by
 have h:(X.info? 97).map (λi=>(i.zero,i.size,i.bytes))=I (I .nilIface,1,16):=by kernel_rfl
 obtain⟨i,c,a,d,b⟩:=info_parts h;exact⟨i,_,c,a,d,b,rfl⟩⟩
def vG(w:U)(a:List W)(e:Ending)(w':U):Prop:=
 ∃v,e=au v/\Win 97 id w' v a/\(∀k,v.ownBlock=I k->w.heap.size<=k/\k<w'.heap.size)/\ah w.heap.size w w'
theorem vH(w:U):ae X 238 #[Z J 0 0] w λe w'=>vG w [] e w':=by
 have f:∀(w:U)(a:Option ai)(n c b d:Nat),(binOp .eql 184 (Z a n c) (Z J b d)).run X w=af (bh a.isNone) w:=λw a n c b d=>ep w _ _ a n c b d di
 go_enter dj,dl;go_wp2_with fail;exact av (v:=Z J 0 0) (by simp[aw,dm,go_sem]) rfl ⟨_,rfl,.E0 _ _ _,λk h=>(by cases h),ao _ _⟩
theorem mX(w:U)(g off cap:Nat)(b:List W)(s:b.length<=1048576)(f:∀v∈b,v.oneCell'=ac)(l:∀i x,b[i]?=I x->w.cell? ⟨g,off+i,J⟩=I x):
 ae X 238 #[Z (I ⟨g,off,J⟩) b.length cap] w λe w'=>vG w b e w':=by
 have m:ah w.heap.size w (w.alloc (V #[] 97)):=(ao _ _).alloc (H _) _;have h:=bs w (V #[] 97);have o:aR 1 97 (w.alloc (V #[] 97)) (Z (I ⟨w.heap.size,0,J⟩) 0 0) 0 []:=⟨by simp,bg ⟨w.heap.size,0,0,#[],rfl,h,H _,by simp,em _,λj u q=>by simp at q⟩⟩;have t:=L m;have r:=L o;have y:=L s;have p:=L f
 have d:∀j u,b[j]?=I u->(w.alloc (V #[] 97)).cell? ((⟨g,off,J⟩:ai).add j)=I u:=by
  intro j u q;have A:(⟨g,off,J⟩:ai).add j=⟨g,off+j,J⟩:=by unfold bx;split<;>simp_all
  rw[A];have z:=l j u q;exact(World.cell?_of_block (dh _ _ _ (World.block_lt_of_cell? w _ z))).trans z
 have C:=L d;clear m h o s l d f;have D:∀(w:U)(a:Option ai)(n c m o:Nat),(binOp .eql 184 (Z a n c) (Z J m o)).run X w=af (bh a.isNone) w:=λw a n c m o=>ep w _ _ a n c m o di
 by_cases f:b= []
 .subst f;go_enter dj,dl
  go_wp2_with (at_builtin;refine qR lW rfl _ _ rfl rfl r.o (I ⟨g,off,J⟩) cap rfl ?_)
  go_wp2_with fail;exact av (v:=Z (I ⟨w.heap.size,0,J⟩) 0 0) (by simp[aw,dm,go_sem]) rfl ⟨_,rfl,cj (by simpa using r.o),λk l=>(by cases l;exact⟨H _,by simp⟩),t.o⟩
 .obtain⟨n,h⟩:∃n,b.length=n+1:=⟨b.length-1,by have:=List.length_pos_iff.2 f;omega⟩;rw[h];have d:=L h;clear f h;go_enter dj,dl
  go_wp2_with (at_builtin;refine dD lW rfl _ _ rfl rfl r.o ⟨g,off,J⟩ (n+1) cap b rfl ?_ C.o ?_ ?_ ?_ ?_ ?_)
  .rw[d.o];omega
  .exact p.o
  .omega
  .have:=y.o;rw[d.o]at this;omega
  .have:=y.o;rw[d.o]at this;unfold bm;omega
  intro F f c w' z A h;have s:=L z;have P:=L A;have B:=L h;clear z A h;go_wp2_with fail;refine av (v:=Z (I ⟨F,f,J⟩) (n+1) c) (by simp[aw,dm,go_sem]) rfl ?_;refine⟨_,rfl,?_,?_,?_⟩
  .exact cj (n:=n+1) (by simpa using s.o)
  .intro k h;cases h;rcases P.o with l|l
   .cases l;exact⟨H _,Nat.lt_of_lt_of_le (by simp) B.o.size⟩
   .exact⟨bu (by simp) l.1,l.2⟩
  .exact((bw (λ_=>False) t.o).B9 B.o (λk l=>bg (by cases l;exact H _))).B3 (H _) (λ_ l=>l.elim)
theorem aBG(w:U)(b n:Nat)(l:W)(a:List W)(h:w.heap[b]?=I (V #[l] 195 (0,0)))(d:Win 97 id w l a)(g:a.length<n):
 ae X 219 #[Y (I ⟨b,0,J⟩),O N n] w λe w'=>e=dp [{v:=K 29 (O N 102),recovered:=G}]/\w'=w:=by
 have j:=bp h;obtain⟨i,k,c⟩:=d.A8;have f:(a.length:Int)<(n:Int):=by omega
 clear h d g;subst c;go_enter ck,co;go_wp2_with fail;exact⟨rfl,rfl,rfl⟩
theorem uK(w:U)(b n:Nat)(a0:W)(a:List W)(R:w.heap[b]?=I (V #[a0] 195 (0,0)))(S:Win 97 id w a0 a)(A:a.length<=1048576)(f:∀v∈a,v.oneCell'=ac)(u:n<=a.length):
 ae X 219 #[Y (I ⟨b,0,J⟩),O N n] w λe w'=>vG w (a.drop (a.length-n)) e w':=by
 have T:=bp R;have q:¬(a.length:Int)<(n:Int):=by omega
 have j:(n:Int)<=(a.length:Int):=by omega
 rcases S with⟨rfl,rfl⟩|⟨g,off,cap,cur,rfl,B,hcp,-,C,hi⟩
 .have c:n=0:=by simpa using u
  subst c;have p:=L (vH w);clear R f A u q j;go_enter ck,co;go_wp2_with fail;refine(p.o).mono ?_;rintro e w1 ⟨v,rfl,h,l,m⟩;have o:=L (And.intro h (And.intro l m));obtain⟨a2,c2,rfl⟩:=h.A8;clear h l m;go_wp2_with fail;go_ret;exact⟨_,rfl,o.o.1,o.o.2⟩
 .obtain⟨k,y⟩:∃k,a.length-n=k:=⟨_,rfl⟩;have hkl:k<=a.length:=by omega
  rw[y];have D:N.wrap ((a.length:Int)-(n:Int))=(k:Int):=by rw[dq];omega
  have hk0:(0:Int)<=(k:Int):=by omega
  have F:(k:Int)<=(a.length:Int):=by omega
  have hcm:cap<=9223372036854775807:=by unfold bm at C;omega
  have r:(a.drop k).length=a.length-k:=List.length_drop
  have c:∀i x,(a.drop k)[i]?=I x->w.cell? ⟨g,off+k+i,J⟩=I x:=λi x z=>by
   rw[List.getElem?_drop]at z;rw[aA B,show off+k+i=off+(k+i) by omega];exact hi (k+i) x z
  have d:∀v∈a.drop k,v.oneCell'=ac:=λv P=>f v (List.mem_of_mem_drop P)
  have HK:=L (And.intro y r)
  by_cases Q:cap=k
  .have s:a.drop k= []:=ee (by omega);rw[s];have p:=L (mX w g off 0 [] (by simp) (λv P=>by simp at P) (λi x z=>by simp at z));have t:a.length=k:=by omega
   subst Q;clear R f A u hi B C c d s r y;rw[t]at T q j D F;clear t;go_enter ck,co;go_wp2_with fail;refine(p.o).mono ?_;rintro e w1 ⟨v,rfl,h,l,m⟩;have o:=L (And.intro h (And.intro l m));obtain⟨a2,c2,rfl⟩:=h.A8;clear h l m;go_wp2_with fail;go_ret;exact⟨_,rfl,o.o.1,o.o.2⟩
  .have p:=L (mX w g (off+k) (cap-k) (a.drop k) (by rw[r];omega) d c);rw[r]at p;clear R f A u hi B C c d y r;go_enter ck,co;go_wp2_with fail;refine(p.o).mono ?_;rintro e w1 ⟨v,rfl,h,l,m⟩;have o:=L (And.intro h (And.intro l m));obtain⟨a2,c2,rfl⟩:=h.A8;clear h l m;go_wp2_with fail;go_ret;have c:=o.o.1;have d:=o.o.2;rw[HK.o.2]at c d;exact⟨_,rfl,c,d⟩
def jL(w:U)(b:Nat)(c:W)(a:List W)(k:Nat)(T:az)(v:W)(w':U):Prop:=
 ∃g off cap,w'.heap[b]?=I (V #[Z (I ⟨g,off,J⟩) (k+1) cap] 195 (0,0))/\Win 97 id w' (Z (I ⟨g,off,J⟩) (k+1) cap) (a.take k++ [K T v])/\(c.ownBlock=I g\/w.heap.size<=g)/\Keeps (λk=>k=b\/c.ownBlock=I k) w w'
theorem Win.B0{t:Type}{e:Nat}{enc:t->W}{w:U}{g off n cap:Nat}{l:List t}(h:Win e enc w (Z (I ⟨g,off,J⟩) n cap) l){k:Nat}(q:k<=l.length):Win e enc w (Z (I ⟨g,off,J⟩) k cap) (l.take k):=by
 have o:(l.take k).length=k:=by rw[cg];omega
 rcases h with⟨c,_⟩|⟨r,d,f,b,c,j,s,m,p,hi⟩
 .cases c
 .cases c;refine bg ⟨g,off,cap,b,by rw[o],j,by omega,m,p,λi x a=>?_⟩;rw[List.getElem?_take]at a;split at a
  .exact hi i x a
  .cases a
theorem zB(w:U)(n a d:Nat)(h:(⟨n,a,d⟩:Sz).C3=G)(m:n<=4611686018427387904)(l:a<=4611686018427387904)(f:d<=4611686018427387904):ae X 235 #[E #[O N n,O N a,O N d]] w λe w'=>e=au (bh G)/\ah w.heap.size w w':=by
 by_cases j:n<=65536
 .have b:(n:Int)<=65536:=by omega
  by_cases i:a<=2097152
  .have c:(a:Int)<=2097152:=by omega
   have g:¬(d:Int)<=512:=by
    intro k;simp[cz]at h;omega
   clear h;go_enter dt,du;go_wp2;go_ret;exact⟨rfl,(ao _ _).alloc (H _) _⟩
  .have c:¬(a:Int)<=2097152:=by omega
   clear h;go_enter dt,du;go_wp2;go_ret;exact⟨rfl,(ao _ _).alloc (H _) _⟩
 .have b:¬(n:Int)<=65536:=by omega
  clear h;go_enter dt,du;go_wp2;go_ret;exact⟨rfl,(ao _ _).alloc (H _) _⟩
theorem oM(a:Option ai)(n c b d:Nat):(Z a n c).ownBlock=(Z a b d).ownBlock:=by cases a<;>rfl
theorem tZ(w:U)(b n p h d a:Nat)(c:Array W)(S:az)(r:w.heap[p]?=I (V c S (0,0)))(m:c[0]?=I (O N h))(o:c[1]?=I (O N d))(l:c[2]?=I (O N a))
 (q:(⟨h,d,a⟩:Sz).C3=G)(y:h<=4611686018427387904)(t:d<=4611686018427387904)(s:a<=4611686018427387904):
 ae X 220 #[Y (I ⟨b,0,J⟩),O N n,K 181 (Y (I ⟨p,0,J⟩))] w λe w'=>e=dp [{v:=K 29 (O N 3),recovered:=G}]/\ah w.heap.size w w':=by
 have A:=pD r m o l;have x:=L (λi=>iX i h d a);have u:=L (λi=>zB i h d a q y t s);clear r m o l q;go_enter cr,ct;go_wp2_with fail;refine(x.o _).mono ?_;rintro e w1 ⟨rfl,g⟩;have j:=L g;clear g;go_wp2_with fail;refine(u.o _).mono ?_;rintro e w2 ⟨rfl,f⟩;have k:=L (chain j.o f);clear f;go_wp2_with fail;refine(uW _ 3).mono ?_;rintro e z ⟨rfl,rfl⟩;go_wp2_with fail;exact⟨rfl,rfl,k.o⟩
theorem uA(w:U)(b n p B C D:Nat)(c:Array W)(S:az)(a1:W)(a:List W)(F:w.heap[p]?=I (V c S (0,0)))(m:c[0]?=I (O N B))(t:c[1]?=I (O N C))(f:c[2]?=I (O N D))
 (v:(⟨B,C,D⟩:Sz).C3=ac)(a0:w.heap[b]?=I (V #[a1] 195 (0,0)))(i:Win 97 id w a1 a)(x:a.length<=1048576)(hn:n<=a.length):
 ae X 220 #[Y (I ⟨b,0,J⟩),O N n,K 181 (Y (I ⟨p,0,J⟩))] w λe w'=>e=au (.tuple #[])/\jL w b a1 a (a.length-n) 181 (Y (I ⟨p,0,J⟩)) w':=by
 have hm:=pD F m t f;have HS:=L (λP=>iX P B C D);have HO:=L (λP=>kI P B C D v);obtain⟨k,Q⟩:∃k,a.length-n=k:=⟨_,rfl⟩;rw[Q];have hkw:N.wrap ((a.length:Int)-(n:Int))=(k:Int):=by rw[dq];omega
 have hk0:(0:Int)<=(k:Int):=by omega
 have hk1:(k:Int)<=(a.length:Int):=by omega
 have o:k<=a.length:=by omega
 have R:=L (i.ne a0 (by decide));have a2:=L a0;have s:=L (And.intro x o)
 obtain⟨r,d,T,hcp,h⟩:∃r d,a1=Z r a.length d/\a.length<=d/\Win 97 id w (Z r k d) (a.take k):=by
  rcases i with⟨rfl,rfl⟩|⟨g,off,cap,l,rfl,z,y,A,hm,hi⟩
  .have:k=0:=by simp at o;exact o
   subst this;exact⟨J,0,rfl,H _,.E0 _ _ _⟩
  .exact⟨_,cap,rfl,y,Win.B0 (n:=a.length) (bg ⟨g,off,cap,l,rfl,z,y,A,hm,hi⟩) o⟩
 have hkc:(k:Int)<=(d:Int):=by omega
 have HWK:=L h;clear F m t f v a0 i x h;subst T;go_enter cr,ct;go_wp2_with fail;refine(HS.o _).mono ?_;rintro e w1 ⟨rfl,h⟩;have HB1:=L h;clear h;go_wp2_with fail;refine(HO.o _).mono ?_;rintro e w2 ⟨rfl,h⟩;have i:=chain HB1.o h;have f:=keep a2.o i;have hc0:=bp f;have hf0:=cu f;have HH2:=L f;have HB:=L i;have hlt2:=ag f;clear h i f;go_wp2_with fail;refine(dQ _ 3).mono ?_;rintro e f ⟨rfl,rfl⟩;have i:Keeps (λ_=>False) f (f.drew.alloc (V #[K 181 (Y (I ⟨p,0,J⟩))] 97)):=((bc _ f).A9).A4 _;have l:=((HWK.o.A0 (bw (λ_=>False) HB.o) (λ_ _=>id)).A0 i (λ_ _=>id)).Q7;rw[cv,show(a.take k).length=k by rw[cg];omega]at l
 have h:∀j u,([K 181 (Y (I ⟨p,0,J⟩))]:List W)[j]?=I u->(f.drew.alloc (V #[K 181 (Y (I ⟨p,0,J⟩))] 97)).cell? ((⟨f.heap.size,0,J⟩:ai).add j)=I u:=by
  intro j u m;have F:(⟨f.heap.size,0,J⟩:ai).add j=⟨f.heap.size,j,J⟩:=by unfold bx;split<;>simp_all
  rw[F]
  show(f.drew.alloc _).cell? ⟨f.drew.heap.size,j,J⟩=_
  rw[aA (bs f.drew _)]
  simpa using m
 have m:∀u∈([K 181 (Y (I ⟨p,0,J⟩))]:List W),u.oneCell'=ac:=λu hu=>by simp at hu;subst hu;rfl
 have t:(k+1)*16<=140737488355328:=by have:=s.o;omega
 have v:k+1<=bm:=by have:=s.o;unfold bm;omega
 have HWX:=L l;have x:=L h;have HON:=L m;have HBM:=L t;have HMM:=L v;have HHX:=L (i.C4 HH2.o id);have y:=L (show(Z r k d).ownBlock≠I b by rw[oM r k d a.length d];exact R.o);clear l h m t v i;go_wp2_with fail
 go_region_law (refine bO lW rfl _ _ rfl rfl HWX.o ⟨f.heap.size,0,J⟩ 1 1 [K 181 (Y (I ⟨p,0,J⟩))] rfl rfl x.o HON.o (by decide) HBM.o HMM.o ?_;intro z t v w' i l h;have h:Keeps (λq=>(Z r k d).ownBlock=I q) (f.drew.alloc (V #[K 181 (Y (I ⟨p,0,J⟩))] 97)) w':=h;have l:(Z r k d).ownBlock=I z\/(f.drew.alloc (V #[K 181 (Y (I ⟨p,0,J⟩))] 97)).heap.size<=z/\z<w'.heap.size:=l;have m:=h.C4 HHX.o y.o;have hc1:=bp m;have hf1:=cu m)
 all_goals
  have HB4:=L m;have A:=L i;rw[oM r k d a.length d]at l h;have HGB:=L l;have HKK:=L h;have HNG:=L (i.ne m (by decide));clear m i l h hc0 hf0;go_wp2_with fail
  go_end0
  have h:Keeps (λk=>k=b) w' (w'.setCell ⟨b,0,J⟩ (Z (I ⟨z,t,J⟩) (k+1) v)):=(bc (λk=>k=b) w').A2 (p:=⟨b,0,J⟩) (ar rfl) _
  refine⟨rfl,z,t,v,aB HB4.o _,?_,?_,?_⟩
  .refine cj (n:=k+1) ?_;rw[cv];exact A.o.A0 h (λk e Q=>HNG.o (e.trans (congrArg I Q)))
  .exact HGB.o.imp id (λa0=>bu HB.o.size (bu (by simp) a0.1))
  .exact((((bw (λk=>k=b\/(Z r a.length d).ownBlock=I k) HB.o).A9.A4 _).B8 (HKK.o.A6 (λk e=>bg e)))).B8 (h.A6 (λk e=>ar e))
theorem qW(w:U)(b n p h d a:Nat)(c:Array W)(S:az)(r:w.heap[p]?=I (V c S (0,0)))(m:c[0]?=I (O N h))(o:c[1]?=I (O N d))(l:c[2]?=I (O N a))
 (q:(⟨h,d,a⟩:Sz).C3=G)(y:h<=4611686018427387904)(t:d<=4611686018427387904)(s:a<=4611686018427387904):
 ae X 220 #[Y (I ⟨b,0,J⟩),O N n,K 187 (Y (I ⟨p,0,J⟩))] w λe w'=>e=dp [{v:=K 29 (O N 3),recovered:=G}]/\ah w.heap.size w w':=by
 have A:=pE r m o l;have x:=L (λi=>iX i h d a);have u:=L (λi=>zB i h d a q y t s);clear r m o l q;go_enter cr,ct;go_wp2_with fail;refine(x.o _).mono ?_;rintro e w1 ⟨rfl,g⟩;have j:=L g;clear g;go_wp2_with fail;refine(u.o _).mono ?_;rintro e w2 ⟨rfl,f⟩;have k:=L (chain j.o f);clear f;go_wp2_with fail;refine(uW _ 3).mono ?_;rintro e z ⟨rfl,rfl⟩;go_wp2_with fail;exact⟨rfl,rfl,k.o⟩
theorem lG(w:U)(b n p B C D:Nat)(c:Array W)(S:az)(a1:W)(a:List W)(F:w.heap[p]?=I (V c S (0,0)))(m:c[0]?=I (O N B))(t:c[1]?=I (O N C))(f:c[2]?=I (O N D))
 (v:(⟨B,C,D⟩:Sz).C3=ac)(a0:w.heap[b]?=I (V #[a1] 195 (0,0)))(i:Win 97 id w a1 a)(x:a.length<=1048576)(hn:n<=a.length):
 ae X 220 #[Y (I ⟨b,0,J⟩),O N n,K 187 (Y (I ⟨p,0,J⟩))] w λe w'=>e=au (.tuple #[])/\jL w b a1 a (a.length-n) 187 (Y (I ⟨p,0,J⟩)) w':=by
 have hm:=pE F m t f;have HS:=L (λP=>iX P B C D);have HO:=L (λP=>kI P B C D v);obtain⟨k,Q⟩:∃k,a.length-n=k:=⟨_,rfl⟩;rw[Q];have hkw:N.wrap ((a.length:Int)-(n:Int))=(k:Int):=by rw[dq];omega
 have hk0:(0:Int)<=(k:Int):=by omega
 have hk1:(k:Int)<=(a.length:Int):=by omega
 have o:k<=a.length:=by omega
 have R:=L (i.ne a0 (by decide));have a2:=L a0;have s:=L (And.intro x o)
 obtain⟨r,d,T,hcp,h⟩:∃r d,a1=Z r a.length d/\a.length<=d/\Win 97 id w (Z r k d) (a.take k):=by
  rcases i with⟨rfl,rfl⟩|⟨g,off,cap,l,rfl,z,y,A,hm,hi⟩
  .have:k=0:=by simp at o;exact o
   subst this;exact⟨J,0,rfl,H _,.E0 _ _ _⟩
  .exact⟨_,cap,rfl,y,Win.B0 (n:=a.length) (bg ⟨g,off,cap,l,rfl,z,y,A,hm,hi⟩) o⟩
 have hkc:(k:Int)<=(d:Int):=by omega
 have HWK:=L h;clear F m t f v a0 i x h;subst T;go_enter cr,ct;go_wp2_with fail;refine(HS.o _).mono ?_;rintro e w1 ⟨rfl,h⟩;have HB1:=L h;clear h;go_wp2_with fail;refine(HO.o _).mono ?_;rintro e w2 ⟨rfl,h⟩;have i:=chain HB1.o h;have f:=keep a2.o i;have hc0:=bp f;have hf0:=cu f;have HH2:=L f;have HB:=L i;have hlt2:=ag f;clear h i f;go_wp2_with fail;refine(dQ _ 3).mono ?_;rintro e f ⟨rfl,rfl⟩;have i:Keeps (λ_=>False) f (f.drew.alloc (V #[K 187 (Y (I ⟨p,0,J⟩))] 97)):=((bc _ f).A9).A4 _;have l:=((HWK.o.A0 (bw (λ_=>False) HB.o) (λ_ _=>id)).A0 i (λ_ _=>id)).Q7;rw[cv,show(a.take k).length=k by rw[cg];omega]at l
 have h:∀j u,([K 187 (Y (I ⟨p,0,J⟩))]:List W)[j]?=I u->(f.drew.alloc (V #[K 187 (Y (I ⟨p,0,J⟩))] 97)).cell? ((⟨f.heap.size,0,J⟩:ai).add j)=I u:=by
  intro j u m;have F:(⟨f.heap.size,0,J⟩:ai).add j=⟨f.heap.size,j,J⟩:=by unfold bx;split<;>simp_all
  rw[F]
  show(f.drew.alloc _).cell? ⟨f.drew.heap.size,j,J⟩=_
  rw[aA (bs f.drew _)]
  simpa using m
 have m:∀u∈([K 187 (Y (I ⟨p,0,J⟩))]:List W),u.oneCell'=ac:=λu hu=>by simp at hu;subst hu;rfl
 have t:(k+1)*16<=140737488355328:=by have:=s.o;omega
 have v:k+1<=bm:=by have:=s.o;unfold bm;omega
 have HWX:=L l;have x:=L h;have HON:=L m;have HBM:=L t;have HMM:=L v;have HHX:=L (i.C4 HH2.o id);have y:=L (show(Z r k d).ownBlock≠I b by rw[oM r k d a.length d];exact R.o);clear l h m t v i;go_wp2_with fail
 go_region_law (refine bO lW rfl _ _ rfl rfl HWX.o ⟨f.heap.size,0,J⟩ 1 1 [K 187 (Y (I ⟨p,0,J⟩))] rfl rfl x.o HON.o (by decide) HBM.o HMM.o ?_;intro z t v w' i l h;have h:Keeps (λq=>(Z r k d).ownBlock=I q) (f.drew.alloc (V #[K 187 (Y (I ⟨p,0,J⟩))] 97)) w':=h;have l:(Z r k d).ownBlock=I z\/(f.drew.alloc (V #[K 187 (Y (I ⟨p,0,J⟩))] 97)).heap.size<=z/\z<w'.heap.size:=l;have m:=h.C4 HHX.o y.o;have hc1:=bp m;have hf1:=cu m)
 all_goals
  have HB4:=L m;have A:=L i;rw[oM r k d a.length d]at l h;have HGB:=L l;have HKK:=L h;have HNG:=L (i.ne m (by decide));clear m i l h hc0 hf0;go_wp2_with fail
  go_end0
  have h:Keeps (λk=>k=b) w' (w'.setCell ⟨b,0,J⟩ (Z (I ⟨z,t,J⟩) (k+1) v)):=(bc (λk=>k=b) w').A2 (p:=⟨b,0,J⟩) (ar rfl) _
  refine⟨rfl,z,t,v,aB HB4.o _,?_,?_,?_⟩
  .refine cj (n:=k+1) ?_;rw[cv];exact A.o.A0 h (λk e Q=>HNG.o (e.trans (congrArg I Q)))
  .exact HGB.o.imp id (λa0=>bu HB.o.size (bu (by simp) a0.1))
  .exact((((bw (λk=>k=b\/(Z r a.length d).ownBlock=I k) HB.o).A9.A4 _).B8 (HKK.o.A6 (λk e=>bg e)))).B8 (h.A6 (λk e=>ar e))
end Go.Proofs.YtakkmiomhackiaaGreatDoor
