/-
  The program, one part of its walk. Conditions: none.
-/
import Derived.Test.YtakkmiomhackiaaGreatDoorTd18
set_option linter.all false
set_option maxRecDepth 100000
set_option maxHeartbeats 16000000
open Go.Proofs.Tryz
open Bool renaming false->af,true->Q
open Go renaming Addr->bm,Calls->ag,Value->Y,World->O,cell_of_one->bz,heap_alloc_new->bj,info_parts->dq,leaves_cons->dy,lt_of_block->di,maxLen->bk,results->dj
open Go.Ending renaming returned->ao
open Go.FloatKind renaming f64->bc
open Go.Instr renaming typeAssert->bh
open Go.IntKind renaming i64->U,u64->bu
open Go.Obj renaming cells->D,map->cg
open Go.Proofs renaming intOf->bw
open Go.Proofs.Tryz renaming func50->co,ntmps50->cr,prog->Z,results196->ee
open Go.Proofs.YtakkmiomhackiaaGreatDoor.Keeps renaming A1->E,A3->cu
open Go.Proofs.YtakkmiomhackiaaGreatDoor.Tr renaming A7->cz,object->az,text->ck
open Go.Result renaming ok->au
open Go.RowKit renaming Below->T
open Go.RowKit.Below renaming refl->av
open Go.Value renaming agg->ac,bool->H,float->ba,iface->X,int->N,nilIface->bg,pointer->ai,slice->W,string->ae,tuple->ar
open Go.Value.slice renaming injEq->ei
open Go.World.ownsMap renaming drew->eh
open List renaming getD_eq_getElem?_getD->dh,getElem?_append_left->dm,getElem?_append_right->dp,getElem?_eq_getElem->bs,getElem?_eq_some_iff->cv,getElem?_map->du,length_drop->cj,length_map->dx,map_id->dw,mem_of_getElem?->bx,mem_of_mem_drop->cw,take_add_one->dt
open Nat renaming le_refl->ah,le_succ->dl,le_trans->ak,lt_of_lt_of_le->ct,zero_le->bp
open Option renaming map_some->dv,none->J,some->I
open Option.some renaming injEq->ej
open Or renaming inl->aw,inr->aj
namespace Go.Proofs.YtakkmiomhackiaaGreatDoor
open Go.RowKit
section
inductive Small:Tr->Prop
 | null:Small .null
 | flag (b:Bool):Small (.flag b)
 | num (x:Nat):Small (.num x)
 | text (s:List UInt8):Small (ck s)
 | list (l:List Tr) (hl:l.length<=65536) (h:∀t∈l,Small t):Small (.list l)
 | object (keys:List (List UInt8)) (l:List Tr) (hk:keys.length=l.length) (hl:l.length<=65536) (h:∀t∈l,Small t):Small (az keys l)
def aFl(x:List UInt8×Y):List Y:= [encS x.1,x.2]
def jZ(keys:List (List UInt8))(a:List Y):List Y:=((keys.zip a).map aFl).flatten
inductive eJ(F:Nat->Prop)(w:O):Y->Tr->Prop
 | null:eJ F w (X 102 (ac #[])) .null
 | flag (b:Bool):eJ F w (X 104 (H b)) (.flag b)
 | num (x:Nat):eJ F w (X 107 (ba bc x)) (.num x)
 | text (s:List UInt8):eJ F w (X 109 (ae ⟨s.toArray⟩)) (ck s)
 | list (V:Y) (vals:List Y) (l:List Tr) (hw:aR 1 39 w V l.length vals) (hF:∀k,V.ownBlock=I k->F k)
  (ht:∀(i:Nat)(v:Y)(t:Tr),vals[i]?=I v->l[i]?=I t->eJ F w v t):eJ F w (X 112 V) (.list l)
 | object (V:Y) (keys:List (List UInt8)) (vals:List Y) (l:List Tr) (hw:aR 2 130 w V l.length (jZ keys vals)) (hF:∀k,V.ownBlock=I k->F k) (hl:vals.length=l.length)
  (ht:∀(i:Nat)(v:Y)(t:Tr),vals[i]?=I v->l[i]?=I t->eJ F w v t):eJ F w (X 115 V) (az keys l)
section
variable {F G:Nat->Prop} {w w':O} {v:Y} {t:Tr}
theorem eJ.A0(h:eJ F w v t)(i:Keeps G w w')(g:∀k,F k->k<w.heap.size->¬G k):eJ F w' v t:=by
 induction h with
 | null=>exact .null
 | flag b=>exact .flag b
 | num x=>exact .num x
 | text s=>exact .text s
 | list V a l d c j f=>exact .list V a l (d.A0 i λk e=>g k (c k e) (d.lt e)) c f
 | object V keys a l d c m j f=>exact .object V keys a l (d.A0 i λk e=>g k (c k e) (d.lt e)) c m f
theorem eJ.A6(h:eJ F w v t)(g:∀k,F k->k<w.heap.size->G k):eJ G w v t:=by
 induction h with
 | null=>exact .null
 | flag b=>exact .flag b
 | num x=>exact .num x
 | text s=>exact .text s
 | list V a l c d i f=>exact .list V a l c (λk e=>g k (d k e) (c.lt e)) f
 | object V keys a l c d j i f=>exact .object V keys a l c (λk e=>g k (d k e) (c.lt e)) j f
theorem eJ.L5(h:eJ F w v t):∃a x,v=X a x:=by
 cases h<;>exact⟨_,_,rfl⟩
theorem eJ.T8(h:eJ F w v t)(a:T w.heap.size w w'):eJ F w' v t:=h.A0 (E (λ_=>False) a) λ_ _ _=>id
end
def kR(F:Nat->Prop)(w:O)(a:List Y)(l:List Tr):Prop:=a.length=l.length/\∀(i:Nat)(v:Y)(t:Tr),a[i]?=I v->l[i]?=I t->eJ F w v t
section
variable {F G:Nat->Prop} {w w':O} {vals:List Y} {l:List Tr}
theorem kR.E0(F:Nat->Prop)(w:O):kR F w [] []:=⟨rfl,λi v t h=>by simp at h⟩
theorem kR.A0(h:kR F w vals l)(b:Keeps G w w')(a:∀k,F k->k<w.heap.size->¬G k):kR F w' vals l:=⟨h.1,λi v t c d=>(h.2 i v t c d).A0 b a⟩
theorem kR.A6(h:kR F w vals l)(a:∀k,F k->k<w.heap.size->G k):kR G w vals l:=⟨h.1,λi v t b c=>(h.2 i v t b c).A6 a⟩
theorem kR.M6{v:Y}{t:Tr}(h:kR F w vals l)(e:eJ F w v t):kR F w (vals++ [v]) (l++ [t]):=by
 refine⟨by simp[h.1],λi x y a b=>?_⟩
 by_cases hi:i<vals.length
 .rw[dm hi]at a;rw[dm (by have:=h.1;omega)]at b;exact h.2 i x y a b
 .rw[dp (by omega)]at a;rw[dp (by have:=h.1;omega)]at b
  have d:i-vals.length=0:=by
   have:=(cv.1 a).1;simp at this;omega
  have c:i-l.length=0:=by have:=h.1;omega
  rw[d]at a;rw[c]at b;simp at a b;subst a;subst b;exact e
end
theorem yZ{s e t bytes:Nat}{w:O}{d:Array Oper}{b:List Oper}{o:Oper}{a:Act}{S:Exit->Act->O->Prop}(a0:kQ t e s bytes)(g:o.guard=J)(l c:Operand)
 (h:o.op=Op.makeSlice t l c)(p q:IntKind)(V C:Int)(n:Nat)(v:a.eval l=N p V)(x:a.eval c=N q C)(y:V=0)(A:C=(n:Int))(hb:bytes*n<=281474976710656)(r:n<=bk)
 (a1:∀w',aR s e w' (W (I ⟨w.heap.size,0,J⟩) 0 n) 0 []->T w.heap.size w w'->w.heap.size<w'.heap.size->wpList Z d S b (a.put o.dst (W (I ⟨w.heap.size,0,J⟩) 0 n)) w'):
 wpList Z d S (o::b) a w:=by
 obtain⟨B,-,i,z,hi,F,k,m,-⟩:=a0;have f:=run_make (P:=Z) w t e i z B hi F p q 0 (n:Int) (by omega) (by omega) (by rw[m];omega) (by simp only[bk]at r;omega);subst y;subst A;refine wpList_plain g λK G=>?_
 unfold Oper.wp;simp only[execOp,h,v,x,Sem.run_bind,f,Result.andThen_ok,Int.toNat_natCast,Int.toNat_zero,Sem.run_pure];refine G _ _ (a1 _ ⟨by simp,aj ⟨w.heap.size,0,n,_,rfl,bj w _,bp _,?_,r,λj u R=>by simp at R⟩⟩ ((av _ _).alloc (ah _) _) (by simp));rw[size_madeCells,k];omega
theorem aHV:kQ 112 39 1 16:=⟨underlying112,by decide,by
 have h:(Z.info? 39).map (λi=>(i.zero,i.size,i.bytes))=I (I bg,1,16):=by kernel_rfl
 obtain⟨i,c,a,d,b⟩:=dq h;exact⟨i,_,c,a,d,b,rfl⟩⟩
theorem aFm:kQ 115 130 2 32:=⟨underlying115,by decide,by
 have h:(Z.info? 130).map (λi=>(i.zero,i.size,i.bytes))=I (I (ac #[ae ⟨#[]⟩,bg]),2,32):=by kernel_rfl
 obtain⟨i,c,a,d,b⟩:=dq h;exact⟨i,_,c,a,d,b,rfl⟩⟩
def lS(w:O)(t:Tr)(e:Ending)(w':O):Prop:=∃v,e=ao v/\eJ (λk=>w.heap.size<=k) w' v t/\T w.heap.size w w'
theorem aF2(w:O):ag Z 50 #[ac #[X 177 (ac #[])]] w λe w'=>lS w .null e w':=by
 have c:∀w:O,(bh (X 177 (ac #[])) 97 177 Q).run Z w=au (ar #[ac #[],H Q]) w:=λ_=>by kernel_rfl
 have a:=(av w.heap.size w).alloc (ah _) (D #[X 177 (ac #[])] 99);have d:(w.alloc (D #[X 177 (ac #[])] 99)).cell? ⟨w.heap.size,0,J⟩=I (X 177 (ac #[])):=bz (bj w _);have b:=L a;clear a;go_enter co,cr;go_wp2_with fail;go_ret;exact⟨_,rfl,.null,b.o.alloc (by simp) _⟩
theorem aF3(w:O)(b:Bool):ag Z 50 #[ac #[X 178 (H b)]] w λe w'=>lS w (.flag b) e w':=by
 have d:∀w:O,(bh (X 178 (H b)) 97 177 Q).run Z w=au (ar #[ac #[],H af]) w:=λ_=>by kernel_rfl
 have f:∀w:O,(bh (X 178 (H b)) 97 178 Q).run Z w=au (ar #[H b,H Q]) w:=λ_=>by kernel_rfl
 have a:=(av w.heap.size w).alloc (ah _) (D #[X 178 (H b)] 99);have g:(w.alloc (D #[X 178 (H b)] 99)).cell? ⟨w.heap.size,0,J⟩=I (X 178 (H b)):=bz (bj w _);have c:=L a;clear a;go_enter co,cr;go_wp2_with fail;go_ret;exact⟨_,rfl,.flag b,c.o⟩
theorem aHW(w:O)(x:Nat):ag Z 50 #[ac #[X 179 (ba bc x)]] w λe w'=>lS w (.num x) e w':=by
 have d:∀w:O,(bh (X 179 (ba bc x)) 97 177 Q).run Z w=au (ar #[ac #[],H af]) w:=λ_=>by kernel_rfl
 have c:∀w:O,(bh (X 179 (ba bc x)) 97 178 Q).run Z w=au (ar #[H af,H af]) w:=λ_=>by kernel_rfl
 have f:∀w:O,(bh (X 179 (ba bc x)) 97 179 Q).run Z w=au (ar #[ba bc x,H Q]) w:=λ_=>by kernel_rfl
 have a:=(av w.heap.size w).alloc (ah _) (D #[X 179 (ba bc x)] 99);have g:(w.alloc (D #[X 179 (ba bc x)] 99)).cell? ⟨w.heap.size,0,J⟩=I (X 179 (ba bc x)):=bz (bj w _);have b:=L a;clear a;go_enter co,cr;go_wp2_with fail;go_ret;exact⟨_,rfl,.num x,b.o⟩
theorem aF4(w:O)(s:List UInt8):ag Z 50 #[ac #[X 180 (ae ⟨s.toArray⟩)]] w λe w'=>lS w (ck s) e w':=by
 obtain⟨S,a⟩:∃S:ByteArray,(⟨s.toArray⟩:ByteArray)=S:=⟨_,rfl⟩;have h:=L (show ∀w',eJ (λk=>w.heap.size<=k) w' (X 109 (ae S)) (ck s)from λw'=>by rw[<-a];exact .text s);rw[a];have g:∀w:O,(bh (X 180 (ae S)) 97 177 Q).run Z w=au (ar #[ac #[],H af]) w:=λ_=>by kernel_rfl
 have f:∀w:O,(bh (X 180 (ae S)) 97 178 Q).run Z w=au (ar #[H af,H af]) w:=λ_=>by kernel_rfl
 have c:∀w:O,(bh (X 180 (ae S)) 97 179 Q).run Z w=au (ar #[ba bc 0,H af]) w:=λ_=>by kernel_rfl
 have i:∀w:O,(bh (X 180 (ae S)) 97 180 Q).run Z w=au (ar #[ae S,H Q]) w:=λ_=>by kernel_rfl
 have b:=(av w.heap.size w).alloc (ah _) (D #[X 180 (ae S)] 99);have j:(w.alloc (D #[X 180 (ae S)] 99)).cell? ⟨w.heap.size,0,J⟩=I (X 180 (ae S)):=bz (bj w _);have d:=L b;clear b a;go_enter co,cr;go_wp2_with fail;go_ret;exact⟨_,rfl,h.o _,d.o⟩
end
def aA1(w:O)(m:Nat)(keys:List (List UInt8))(i:Nat)(wr:O):Prop:=
 T w.heap.size w wr/\w.heap.size<=m/\gZ wr m (keys.take i).reverse
theorem aFH:∀(l:List (List UInt8))(a:Nat),a<=l.foldl (λa k=>a+k.length) a
 | [],_=>ah _
 | x::l,a=>ak (Nat.le_add_right a x.length) (aFH l (a+x.length))
theorem aAc{l:List (List UInt8)}(h:l.Nodup):l.reverse.Nodup:=List.pairwise_reverse.2 (h.imp λh e=>h e.symm)
theorem aEx(k:List UInt8)(w:O)(a:k.length<=1073741824):ag Z 218 #[ae ⟨k.toArray⟩] w λe w'=>e=ao (H (aT k))/\T w.heap.size w w':=by
 have h:=right_any ⟨k.toArray⟩ w (by show k.toArray.size<=_;simpa using a)
 simpa using h
theorem aEy{l:List (List UInt8)}{i:Nat}:bA (l.take i)<=bA l:=by
 conv=>rhs;rw[<-List.take_append_drop i l]
 unfold bA;rw[List.foldl_append];exact aFH _ _
def aFI(c:O)(p d a b n:Nat)(z:Sz)(e:List Y)(j:Nat)(wr:O):Prop:=
 Keeps (λk=>k=p) c wr/\∃V,wr.heap[p]?=I (D #[N U z.nodes,N U z.bytes,N U z.depth,W (I ⟨d,a,J⟩) n b,V] 189 (0,0))/\Win 97 id wr V (e.take j)/\∀q,V.ownBlock=I q->c.heap.size<=q
def aKg(w:O)(b:Nat)(V:Y)(a:List Y)(keys:List (List UInt8))(z:Sz)(w':O):Prop:=
 ∃(c:O)(p:Nat)(d e:Y),T w.heap.size w c/\w.heap.size<=p/\c.heap[p]?=I (D #[N U z.nodes,N U z.bytes,N U z.depth,d,e] 189 (0,0))/\
  Win 9 encS c d (cV keys)/\(∀q,d.ownBlock=I q->w.heap.size<=q)/\
  Win 97 id c e ((cV keys).map λk=>(a.drop (a.length-keys.length)).getD (keys.idxOf k) bg)/\(∀q,e.ownBlock=I q->w.heap.size<=q)/\
  jL c b V a (a.length-keys.length) 187 (ai (I ⟨p,0,J⟩)) w'
def rV(w:O)(b:Nat)(V:Y)(a:List Y)(items:List Tr)(keys:List (List UInt8))(e:Ending)(w':O):Prop:=
 (∃no:Nat,e=.panicked [{v:=X 29 (N U no),recovered:=af}]/\po items keys=items/\T w.heap.size w w')\/
  (e=ao (ar #[])/\keys.length<=a.length/\po items keys=items.take (a.length-keys.length)++ [az (cV keys) (besides keys (items.drop (a.length-keys.length)))]/\
   aKg w b V a keys (az (cV keys) (besides keys (items.drop (a.length-keys.length)))).A7 w')
theorem Win.Q0{q:Type}{e:Nat}{enc:q->Y}{w:O}{g off n cap:Nat}{l:List q}(h:Win e enc w (W (I ⟨g,off,J⟩) n cap) l){i:Nat}{x:q}(j:l[i]?=I x):w.cell? ⟨g,off+i,J⟩=I (enc x):=by
 rcases h with⟨a,_⟩|⟨k,b,c,f,a,d,p,m,o,hi⟩
 .cases a
 .cases a;rw[aA d];exact hi i x j
theorem tQ(b j:Nat):(⟨b,0,J⟩:bm).add j=⟨b,j,J⟩:=by unfold Addr.add;split<;>simp_all
theorem tR(w:O):(Instr.makeMap 263 J).run Z w=au (.map (I w.heap.size)) (w.alloc (cg #[] 0)):=by kernel_rfl
theorem aCH(w:O)(F:Nat->Prop)(b g off cap:Nat)(a2:Y)(a:List Y)(items:List Tr)(keys:List (List UInt8))(a0:w.heap[b]?=I (D #[a2] 195 (0,0)))(C:Win 97 id w a2 a)(ht:dZ F w a items)(h:∀t∈items,t.A7.C3=Q)(hl:items.length<=65536)
 (f:Win 9 encS w (W (I ⟨g,off,J⟩) keys.length cap) keys)(d:bH keys)(r:keys.Nodup)(hkl:bA keys<=2097152)(hkn:keys.length<=4194304)(hne:keys≠ []):
 ag Z 222 #[ai (I ⟨b,0,J⟩),W (I ⟨g,off,J⟩) keys.length cap] w λe w'=>rV w b a2 a items keys e w':=by
 have hkc:∀i k,keys[i]?=I k->w.cell? ⟨g,off+i,J⟩=I (encS k):=by
  rcases f with⟨B,_⟩|⟨g',off',cap',G,B,K,P,R,A,hi⟩
  .cases B
  .cases B;exact λi k o=>by rw[aA K];exact hi i k o
 have hglt:g<w.heap.size:=f.lt rfl;have HKC:=L hkc;have HKW:=L f;have HR:=L (λk(o:k∈keys)(w:O)=>aEx k w (by have:=(d k o).2;omega));have HKR:=L d;have HND:=L r;have a3:=L a0;have HW:=L C;have HT:=L ht;have HIN:=L h;clear hkc a0 C ht h d r f;go_enter func222,ntmps222;go_wp2_with fail
 go_loopw [18] (λv wr=>∃i:Nat,v=N U i/\i<=keys.length/\M (T w.heap.size w wr)) (λv _=>keys.length-(bw v).toNat)
 case atStart=>exact⟨0,rfl,bp _,L (av _ _)⟩
 case round=>
  obtain⟨i,rfl,V,HB⟩:=hrel
  by_cases hi:i<keys.length
  .obtain⟨k,o⟩:∃k,keys[i]?=I k:=⟨_,bs hi⟩;have f:=(HB.o.cell (p:=⟨g,off+i,J⟩) hglt).trans (HKC.o i k o);have h:=L (HR.o k (bx o));have d:aT k=Q:=(HKR.o k (bx o)).1;simp only[d]at h;unfold encS at f;obtain⟨s,hs⟩:∃s:ByteArray,(⟨k.toArray⟩:ByteArray)=s:=⟨_,rfl⟩;rw[hs]at h f;clear o d hs;go_wp2_with fail;refine(h.o _).mono ?_;rintro e w1 ⟨rfl,d⟩;have r:=L (chain HB.o d);clear d;go_wp2_with fail;refine(dQ _ 100).mono ?_;rintro e w2 ⟨rfl,rfl⟩;go_wp2_with fail;exact⟨⟨i+1,by go_num,by omega,r⟩,by simp[bw];omega⟩
  .have hie:i=keys.length:=by omega
   subst hie;obtain⟨m,A⟩:∃m,wr.heap.size=m:=⟨_,rfl⟩;have HM0:M (aA1 w m keys 0 (wr.alloc (cg #[] 0))):=L ⟨HB.o.alloc HB.o.size _,by rw[<-A];exact HB.o.size,by rw[<-A];exact gZ.O7 wr⟩;have hmk:=tR wr;rw[A]at hmk;obtain⟨w0,d⟩:∃w0,wr.alloc (cg #[] 0)=w0:=⟨_,rfl⟩;rw[d]at hmk HM0;clear d A;go_wp2_with fail
   go_loopw [7,29] (λy v wr=>∃i:Nat,v=N U i/\y=N U (bA (keys.take i))/\i<=keys.length/\M (aA1 w m keys i wr)) (λ_ v _=>keys.length-(bw v).toNat)
   case atStart=>exact⟨0,rfl,rfl,bp _,HM0⟩
   case round=>
    obtain⟨i,rfl,rfl,V,HM⟩:=hrel
    by_cases hi:i<keys.length
    .obtain⟨k,o⟩:∃k,keys[i]?=I k:=⟨_,bs hi⟩;have f:=(HM.o.1.cell (p:=⟨g,off+i,J⟩) hglt).trans (HKC.o i k o);have B:k.length<=bk:=by have:=(HKR.o k (bx o)).2;unfold bk;omega
     have htk:(keys.take (i+1)).reverse=k::(keys.take i).reverse:=by rw[dt,o];simp
     have P:decide (k∈(keys.take i).reverse)=af:=by
      have:=HND.o.sublist (List.take_sublist (i+1) keys);have d:=aAc this;rw[htk]at d;exact decide_eq_false (List.nodup_cons.1 d).1
     have h:(keys.take i).reverse.length=i:=by simp;omega
     obtain⟨c,G⟩:=HM.o.2.2.P8 B;obtain⟨w1,K,A,C⟩:=HM.o.2.2.C7 (by rw[h];omega) B;rw[P]at G;rw[h]at K;rw[<-htk]at A;have S:M (aA1 w m keys (i+1) w1):=L ⟨((E (λ_=>False) HM.o.1).B9 (mO C) (λq e=>aj (e▸HM.o.2.1))).B3 (ah _) (λ_ a0=>a0.elim),HM.o.2.1,A⟩;have d:=aAC o;have hsl:bA (keys.take (i+1))<=2097152:=ak aEy hkl;have r:(⟨k.toArray⟩:ByteArray).size=k.length:=by show k.toArray.size=_;simp
     unfold encS at f G K;obtain⟨s,hs⟩:∃s:ByteArray,(⟨k.toArray⟩:ByteArray)=s:=⟨_,rfl⟩;obtain⟨y,hy⟩:∃y,bA (keys.take i)=y:=⟨_,rfl⟩;rw[hs]at G f K r;rw[<-r,hy]at d;rw[d]at hsl;have R:=L d;rw[hy];clear o hs P h A C htk hy B d r;go_wp2_with fail;refine(dQ _ 101).mono ?_;rintro e w2 ⟨rfl,rfl⟩;go_wp2_with fail;exact⟨⟨i+1,by go_num,by rw[R.o];go_num,by omega,S⟩,by simp[bw];omega⟩
    .have hie:i=keys.length:=by omega
     subst hie;have d:=HM.o.2.2;rw[List.take_length]at d⊢;have HMM:=L d;clear d;have f:=HW.o.A0 (E (λ_=>False) HM.o.1) (λ_ _=>id);have h:=(E (λ_=>False) HM.o.1).C4 a3.o id
     by_cases d:a.length<keys.length
     .have C:=L (aBG wr b keys.length a2 a h f d);have A:=L d;clear f h d;go_wp2_with fail;refine(C.o).mono ?_;rintro e w1 ⟨rfl,rfl⟩;go_wp2_with fail;exact⟨rfl,aw ⟨102,rfl,by unfold po;rw[if_pos (by have:=A.o;have:=HT.o.1;omega)],HM.o.1⟩⟩
     .have C:=HT.o.1;have HTK:=L (uK wr b keys.length a2 a h f (by omega) HT.o.L0 (by omega));have A:(a.drop (a.length-keys.length)).length=keys.length:=by rw[cj];omega
      have HDL:=L A;have HHN:=L (show keys.length<=a.length by omega);have hkn2:keys.length<=65536:=by omega
      clear f h A C d;go_wp2_with fail;refine(HTK.o).mono ?_;rintro e w3 ⟨S,rfl,d,G,f⟩;obtain⟨ta,tc,hti⟩:=d.A8;rw[HDL.o]at hti;have HB3:=L (chain HM.o.1 f);have HI3:=L d;have HIO:=L (λq(e:S.ownBlock=I q)=>(⟨ak HM.o.1.size (G q e).1,(G q e).2⟩:w.heap.size<=q/\q<w3.heap.size));have HM3:=L (HMM.o.A0 (E (λ_=>False) f) id);have HS:=L (mL F w3 S (a.drop (a.length-keys.length)) (items.drop (a.length-keys.length)) (bA keys) d ((HT.o.A0 (E (λ_=>False) HB3.o) (λ_ _=>id)).L3 _) (λt m=>HIN.o t (cw m)) (by rw[cj];omega) (by omega));subst hti;clear d G f;go_wp2_with fail;refine(HS.o).mono ?_;rintro e w4 ⟨rfl,d⟩;have f:∀z:Sz,szV z=ac #[N U z.nodes,N U z.bytes,N U z.depth]:=λ_=>rfl
      obtain⟨z,hz⟩:∃z:Sz,fX (bA keys) ((items.drop (a.length-keys.length)).map cz)=z:=⟨_,rfl⟩;have HZ:=L hz;rw[hz,f];have HB4:=L (chain HB3.o d);have HI4:=L (HI3.o.A0 (E (λ_=>False) d) (λ_ _=>id));have HM4:=L (HM3.o.A0 (E (λ_=>False) d) id);have HCL:=L (x8 w4 (W (I ⟨g,off,J⟩) keys.length cap) keys (by omega) (HKW.o.A0 (E (λ_=>False) HB4.o) (λ_ _=>id)));have HIO4:=L (λq e=>(⟨(HIO.o q e).1,ct (HIO.o q e).2 d.size⟩:w.heap.size<=q/\q<w4.heap.size));clear d hz f;go_wp2_with fail;refine(HCL.o).mono ?_;rintro e w5 ⟨keysV,rfl,A,K,h⟩;rcases A with⟨_,hkn0⟩|⟨P,d,f,cur2,rfl,R,C,ho2,hm2,G⟩
      .exact absurd hkn0 hne
      have A:Win 9 encS w5 (W (I ⟨P,d,J⟩) keys.length f) keys:=aj ⟨P,d,f,cur2,rfl,R,C,ho2,hm2,G⟩;have HK5:=L A;have HKO:=L (K P rfl);have HB5:=L (chain HB4.o h);have HI5:=L (HI4.o.A0 (E (λ_=>False) h) (λ_ _=>id));have HM5:=L (HM4.o.A0 (E (λ_=>False) h) id);have HIO5:=L (λq e=>(⟨(HIO4.o q e).1,ct (HIO4.o q e).2 h.size⟩:w.heap.size<=q/\q<w5.heap.size));clear A K h R C ho2 hm2 G;obtain⟨p,hp⟩:∃p,w5.heap.size=p:=⟨_,rfl⟩;obtain⟨w6,hw6⟩:∃w6,w5.alloc (D #[N U z.nodes,N U z.bytes,N U z.depth,W (I ⟨P,d,J⟩) keys.length f,W J 0 0] 189)=w6:=⟨_,rfl⟩;have A:T w5.heap.size w5 w6:=by rw[<-hw6];exact(av _ _).alloc (ah _) _
      have C:w6.heap[p]?=I (D #[N U z.nodes,N U z.bytes,N U z.depth,W (I ⟨P,d,J⟩) keys.length f,W J 0 0] 189 (0,0)):=by rw[<-hw6,<-hp];exact bj w5 _
      have K:w6.heap.size=p+1:=by rw[<-hw6,<-hp];simp
      have h:=aH2 w6 P d f (oZ keys HKR.o) (by rw[mM,zC];exact HK5.o.A0 (E (λ_=>False) A) (λ_ _=>id)) (by rw[mM];omega);rw[mM,<-nM HKR.o]at h;have HSORT:=L h;have HP6:=L C;have HA6:=L A;have HPP:=L hp;have hc3:w6.cell? ⟨p,3,J⟩=I (W (I ⟨P,d,J⟩) keys.length f):=by rw[aA C];rfl
      clear h C A K;go_wp2_with fail;refine(HSORT.o).mono ?_;rintro e w7 ⟨rfl,K,A⟩;have C:p≠P:=λe=>by have:=K.lt rfl;have h1:=HKO.o.2;omega
      have hp7:=A.C4 HP6.o C;have h7c:w7.cell? ⟨p,3,J⟩=I (W (I ⟨P,d,J⟩) keys.length f):=by rw[aA hp7];rfl
      have HP7:=L hp7;have HK7:=L K;have h:=L A;obtain⟨vs,R⟩:∃vs,(cV keys).map (λk=>(a.drop (a.length-keys.length)).getD (keys.idxOf k) bg)=vs:=⟨_,rfl⟩;have HVS:=L R;have HJ0:M (aFI w7 p P d f keys.length z vs 0 w7):=L ⟨cu _ _,_,hp7,.E0 _ _ _,λq e=>by cases e⟩;clear C hp7 K A R;go_wp2_with fail
      go_loopw [72] (λv wr=>∃j:Nat,v=N U j/\j<=keys.length/\M (aFI w7 p P d f keys.length z vs j wr)) (λv _=>keys.length-(bw v).toNat)
      case atStart=>exact⟨0,rfl,bp _,HJ0⟩
      case round=>
       obtain⟨j,rfl,hjk,HJ⟩:=hrel;clear HJ0 h7c hc3
       by_cases hj:j<keys.length
       .obtain⟨A,IV,C,K,R⟩:=HJ.o;have hsl:(cV keys).length=keys.length:=(fI keys).length_eq;obtain⟨k,o⟩:∃k,(cV keys)[j]?=I k:=⟨_,bs (by omega)⟩;have B:k∈keys:=(fI keys).mem_iff.1 (bx o);obtain⟨i,V⟩:=List.mem_iff_getElem?.1 B;have hil:i<keys.length:=(cv.1 V).1;obtain⟨x,hx⟩:∃x,(a.drop (a.length-keys.length))[i]?=I x:=⟨_,bs (by rw[HDL.o];exact hil)⟩
        obtain⟨a1,y,rfl⟩:∃a1 y,x=X a1 y:=by
         have hd:=HT.o.L3 (a.length-keys.length);have G:i<(items.drop (a.length-keys.length)).length:=by have:=hd.1;have:=HDL.o;omega
         exact(hd.2 i x _ hx (bs G)).L5
        have hvj:vs[j]?=I (X a1 y):=by
         rw[<-HVS.o,du,o];simp only[dv];rw[aDA HND.o V,dh,hx];rfl
        have hone:=HT.o.L0 _ (cw (bx hx))
        have hkv:Win 9 encS wr (W (I ⟨P,d,J⟩) keys.length f) (cV keys):=HK7.o.A0 A (λq e hq=>by
         cases e;exact HK7.o.ne HP7.o (by decide) (congrArg I hq))
        have hkc:=hkv.Q0 o;have hmlt:=HM4.o.lt;have hg2lt:=HKO.o;have hm7:=(HM5.o.A0 (E (λ_=>False) HA6.o) id).A0 h.o (show ¬m=P by omega);have hmr:=hm7.A0 A (show ¬m=p by have:=HPP.o;omega);have hkml:k.length<=bk:=by have:=(HKR.o k B).2;unfold bk;omega
        have hget:=gZ.T6 (w:=wr.drew) (eh hmr) (aAc HND.o) hkml (i:=i) (by rw[List.reverse_reverse];exact V);rcases HI5.o with⟨hv0,hl0⟩|⟨gi,oi,ci,curi,hvi,_⟩
        .rw[hl0]at hx;cases hx
        simp only[ei]at hvi;obtain⟨rfl,-,rfl⟩:=hvi;have hi7:=((HI5.o.A0 (E (λ_=>False) HA6.o) (λ_ _=>id)).A0 h.o (λq e hq=>by have:=(HIO4.o q e).2;omega)).A0 A (λq e hq=>by have:=(HIO5.o q e).2;have:=HPP.o;omega);have hxc:=hi7.Q0 hx;obtain⟨ia,ic,hIV⟩:=K.A8;have hlj:(vs.take j).length=j:=by rw[List.length_take];have:=(cv.1 hvj).1;omega
        rw[hlj]at hIV;have hkx:Keeps (λ_=>False) wr (wr.drew.alloc (D #[X a1 y] 97)):=((cu _ wr).A9).A4 _;have hwx:=(K.A0 hkx (λ_ _=>id)).Q7;rw[dw,hlj]at hwx
        have hnew:∀j u,([X a1 y]:List Y)[j]?=I u->(wr.drew.alloc (D #[X a1 y] 97)).cell? ((⟨wr.heap.size,0,J⟩:bm).add j)=I u:=by
         intro j u hj;have hp:=tQ wr.heap.size j;rw[hp]
         show(wr.drew.alloc _).cell? ⟨wr.drew.heap.size,j,J⟩=_
         rw[aA (bj wr.drew _)]
         simpa using hj
        have hon:∀u∈([X a1 y]:List Y),u.oneCell'=Q:=λu hu=>by simp at hu;subst hu;exact hone
        have hbm:(j+1)*16<=140737488355328:=by omega
        have hmm:j+1<=bk:=by unfold bk;omega
        subst hIV;obtain⟨-,-,-,-,c4,-⟩:=cells5 C;have c4b:(wr.alloc (D #[X a1 y] 97)).cell? ⟨p,4,J⟩=I (W ia j ic):=((cu (λ_=>False) wr).A4 _).B5 c4 id;have htk:vs.take (j+1)=vs.take j++ [X a1 y]:=by rw[dt,hvj];rfl
        have hp7:=di HP7.o;have HTK2:=L htk;have HWX:=L hwx;have HNEW:=L hnew;have HON:=L hon;have HBM:=L hbm;have HMX:=L hmm;have HKX:=L hkx;have HKP:=L A;have HIOJ:=L R;have HPX:=L (hkx.C4 C id);have HNE2:=L (show(W ia j ic).ownBlock≠I p from λe=>by have:=R p e;omega);unfold encS at hkc hget;obtain⟨s,hs⟩:∃s:ByteArray,(⟨k.toArray⟩:ByteArray)=s:=⟨_,rfl⟩;rw[hs]at hkc hget;clear hs htk hwx hnew hon hbm hmm hkx A R C K hi7 hkml hmr hm7 hmlt hg2lt hkv hvj o B hx hlj hone hsl V;go_wp2_with fail
        go_region_law (refine bO lW rfl _ _ rfl rfl HWX.o ⟨wr.heap.size,0,J⟩ 1 1 [X a1 y] rfl rfl HNEW.o HON.o (by decide) HBM.o HMX.o ?_;intro g' off' cap' w' hwin hgb B;have B:Keeps (λq=>(W ia j ic).ownBlock=I q) (wr.drew.alloc (D #[X a1 y] 97)) w':=B;have V:=B.C4 HPX.o HNE2.o;have hc1:=(cells5 V).2.2.2.2.1;have hf1:=free_at V)
        all_goals
         have HB':=L V;have HWIN:=L hwin;have HGB:=L hgb;have HKK:=L B;clear V hwin hgb B;go_wp2_with fail;have B:Keeps (λk=>k=p) w' (w'.setCell ⟨p,4,J⟩ (W (I ⟨g',off',J⟩) (j+1) cap')):=(cu (λk=>k=p) w').A2 (p:=⟨p,4,J⟩) (aw rfl) _;have V:=HWIN.o.ne HB'.o (by decide);refine⟨⟨j+1,by go_num,by omega,L ⟨?_,_,aB HB'.o _,?_,?_⟩⟩,by simp[bw];omega⟩
         .exact((HKP.o.B9 HKX.o (λ_ a0=>a0.elim)).B9 HKK.o (λq e=>aj (HIOJ.o q e))).B8 B
         .rw[HTK2.o];refine aR.I4 (n:=j+1) ?_;rw[dw];exact HWIN.o.A0 B (λk e o=>V (e.trans (congrArg I o)))
         .intro q e;cases e;rcases HGB.o with a0|a0
          .exact HIOJ.o _ a0
          .exact ak HKP.o.size (ak HKX.o.size a0.1)
       .have hje:j=keys.length:=by omega
        subst hje;obtain⟨A,IV,C,K,R⟩:=HJ.o;have hwp:w.heap.size<=p:=by have:=HB5.o.size;have:=HPP.o;omega
        have hwg:w.heap.size<=P:=ak HB4.o.size HKO.o.1;have B:Keeps (λ_=>False) w wr:=(((E (λ_=>False) HB5.o).B9 (E (λ_=>False) HA6.o) (λ_ a0=>aw a0)).B9 h.o (λq e=>aj (e▸hwg))).B9 A (λq e=>aj (e▸hwp));have hlv:vs.take keys.length=vs:=List.take_of_length_le (by rw[<-HVS.o,dx,(fI keys).length_eq];exact ah _);rw[hlv]at K;have r:=mN (keys:=keys) (l:=items.drop (a.length-keys.length)) HND.o (by rw[cj];have:=HT.o.1;have:=HHN.o;omega);rw[HZ.o]at r;have hil:=HT.o.1
        have hkv:Win 9 encS wr (W (I ⟨P,d,J⟩) keys.length f) (cV keys):=HK7.o.A0 A (λq e hq=>by
         cases e;exact HK7.o.ne HP7.o (by decide) (congrArg I hq))
        by_cases hzw:z.C3=Q
        .have HG:=L (lG wr b keys.length p z.nodes z.bytes z.depth _ _ a2 a C rfl rfl rfl hzw (B.C4 a3.o id) (HW.o.A0 B (λ_ _=>id)) (by omega) HHN.o)
         have V:∀w',jL wr b a2 a (a.length-keys.length) 187 (ai (I ⟨p,0,J⟩)) w'->rV w b a2 a items keys (ao (ar #[])) w':=λw' hgr=>aj ⟨rfl,HHN.o,by
          unfold po fY;rw[if_neg (by have:=HHN.o;omega),<-hil,r,if_pos hzw],by
          rw[r];exact⟨wr,p,_,IV,B.B3 (ah _) (λ_ a0=>a0.elim),hwp,C,hkv,λq e=>by cases e;exact hwg,by rw[HVS.o];exact K,λq e=>by have:=R q e;have:=h.o.size;have:=HA6.o.size;have:=HB5.o.size;omega,hgr⟩⟩
         have HDONE:=L V;clear V A C K R B hlv r hkv;go_wp2_with fail;refine(HG.o).mono ?_;rintro e w8 ⟨rfl,hgr⟩;have V:=L hgr;clear hgr;go_wp2_with fail
         go_end0
         exact HDONE.o _ V.o
        .have V:=tD (bytes:=bA keys) (l:=(items.drop (a.length-keys.length)).map cz) (by intro z hz;obtain⟨t,ht,rfl⟩:=List.mem_map.1 hz;exact HIN.o t (cw ht)) (by rw[dx,cj];omega) (by omega);rw[HZ.o]at V;have HG:=L (qW wr b keys.length p z.nodes z.bytes z.depth _ _ C rfl rfl rfl (by simpa using hzw) V.1 V.2.1 V.2.2)
         have hpo:po items keys=items:=by
          unfold po fY;rw[if_neg (by have:=HHN.o;omega),<-hil,r,if_neg hzw]
         have HPO:=L hpo;have HALL:=L (B.B3 (ah _) (λ_ a0=>a0.elim));clear A C K R B hlv r hkv hpo V;go_wp2_with fail;refine(HG.o).mono ?_;rintro e w8 ⟨rfl,r⟩;have A:=L (chain HALL.o r);clear r;go_wp2_with fail;exact⟨rfl,aw ⟨3,rfl,HPO.o,A.o⟩⟩
theorem l8:cV []= []:=List.perm_nil.1 (fI [])
theorem tS(l:List Tr):besides [] l= []:=by unfold besides;rw[l8];rfl
theorem xB:(az [] []).A7=⟨1,0,1⟩:=by rw[j3];rfl
theorem xC(w:O):ag Z 164 #[W J 0 0] w λe w'=>e=ao (W J 0 0)/\w'=w:=by
 have f:∀(w:O)(a:Option bm)(n c b d:Nat),(binOp .eql 32 (W a n c) (W J b d)).run Z w=au (H a.isNone) w:=λw a n c b d=>Lib.run_eql_slice_nil w _ _ a n c b d underlying32
 go_enter func164,ntmps164;go_wp2_with fail;exact bodyPost_ret (v:=W J 0 0) (by simp[dj,results164,go_sem]) rfl ⟨rfl,rfl⟩
theorem aEz(w:O)(F:Nat->Prop)(b:Nat)(z:Y)(a:List Y)(items:List Tr)(a0:w.heap[b]?=I (D #[z] 195 (0,0)))(c:Win 97 id w z a)(d:dZ F w a items)(f:∀t∈items,t.A7.C3=Q)(hl:items.length<=65536):
 ag Z 222 #[ai (I ⟨b,0,J⟩),W J 0 0] w λe w'=>rV w b z a items [] e w':=by
 have a1:=L a0;have HW:=L c;have A:=d.1;have B:=L (λw1(hb:T w.heap.size w w1)=>uK w1 b 0 z a (keep a0 hb) (c.A0 (E (λ_=>False) hb) (λ_ _=>id)) (by omega) d.L0 (bp _));clear a0 c d f;have C:=tR w;have G:=L ((av w.heap.size w).alloc (ah _) (cg #[] 0));obtain⟨x,c⟩:∃x,w.alloc (cg #[] 0)=x:=⟨_,rfl⟩;rw[c]at C G;clear c;go_enter func222,ntmps222;go_wp2_with fail
 go_loopw [18] (λv wr=>v=N U 0/\wr=w) (λ_ _=>0)
 case atStart=>exact⟨rfl,rfl⟩
 case round=>
  obtain⟨rfl,c⟩:=hrel;rw[c];clear c;go_wp2_with fail
  go_loopw [7,29] (λy v wr=>y=N U 0/\v=N U 0/\wr=x) (λ_ _ _=>0)
  case atStart=>exact⟨rfl,rfl,rfl⟩
  case round=>
   obtain⟨rfl,rfl,c⟩:=hrel;rw[c];clear c;go_wp2_with fail;refine(B.o x G.o).mono ?_;rintro e w3 ⟨h,rfl,d,j,f⟩;have g:a.drop (a.length-0)= []:=by rw[Nat.sub_zero,List.drop_length]
   rw[g]at d;obtain⟨ta,tc,K⟩:=d.A8;have P:=L (chain G.o f);have HI3:=L d;have HS:=L (mL F w3 h [] [] 0 d ⟨rfl,λi v t a0=>by simp at a0⟩ (λt m=>by simp at m) (by simp) (by decide));subst K;clear d j f g;go_wp2_with fail;refine(HS.o).mono ?_;rintro e w4 ⟨rfl,d⟩;have r:=L (chain P.o d);rw[show szV (fX 0 (([]:List Tr).map cz))=ac #[N U (1:Nat),N U (0:Nat),N U (1:Nat)]from rfl];clear d;go_wp2_with fail;refine(xC w4).mono ?_;rintro e s ⟨rfl,rfl⟩;obtain⟨p,R⟩:∃p,s.heap.size=p:=⟨_,rfl⟩;obtain⟨g,k⟩:∃g,s.alloc (D #[N U 1,N U 0,N U 1,W J 0 0,W J 0 0] 189)=g:=⟨_,rfl⟩;have u:T s.heap.size s g:=by rw[<-k];exact(av _ _).alloc (ah _) _
   have d:g.heap[p]?=I (D #[N U 1,N U 0,N U 1,W J 0 0,W J 0 0] 189 (0,0)):=by rw[<-k,<-R];exact bj s _
   have S:=L d;have l:=L (chain r.o u);have V:=L (show w.heap.size<=p by rw[<-R];exact r.o.size);have hc3:g.cell? ⟨p,3,J⟩=I (W J 0 0):=by rw[aA d];rfl
   have hf6:∀o,g.frozen? ⟨p,o,J⟩=af:=free_at d;have HG:=L (lG g b 0 p 1 0 1 _ _ z a d rfl rfl rfl (by decide) ((E (λ_=>False) l.o).C4 a1.o id) (HW.o.A0 (E (λ_=>False) l.o) (λ_ _=>id)) (by omega) (bp _))
   have f:∀w',jL g b z a (a.length-0) 187 (ai (I ⟨p,0,J⟩)) w'->rV w b z a items [] (ao (ar #[])) w':=λw' j=>aj ⟨rfl,bp _,by
    have h0:(az (cV []) (besides [] (items.drop (items.length-0)))).A7.C3=Q:=by rw[l8,tS,xB];rfl
    have n:([]:List (List UInt8)).length=0:=rfl;unfold po fY;rw[n,if_neg (Nat.not_lt_zero _),if_pos h0,A],by
    rw[l8,tS,xB];exact⟨g,p,W J 0 0,W J 0 0,l.o,V.o,S.o,by rw[l8];exact .E0 _ _ _,λq e=>(by cases e),by rw[l8];exact .E0 _ _ _,λq e=>(by cases e),j⟩⟩
   have n:=L f;clear d u f;go_wp2_with fail
   try rw[k]
   refine(aIe g).mono ?_;rintro e d ⟨rfl,rfl⟩
   try rw[R]
   go_wp2_with fail
   go_loopw [72] (λv wr=>v=N U 0/\wr=d) (λ_ _=>0)
   case atStart=>exact⟨rfl,rfl⟩
   case round=>
    obtain⟨rfl,c⟩:=hrel;rw[c];clear c;go_wp2_with fail;refine(HG.o).mono ?_;rintro e f ⟨rfl,j⟩;have c:=L j;clear j;go_wp2_with fail
    go_end0
    exact n.o _ c.o
theorem aEA(w:O)(F:Nat->Prop)(b:Nat)(n:Y)(V:Y)(a:List Y)(items:List Tr)(keys:List (List UInt8))(h:w.heap[b]?=I (D #[V] 195 (0,0)))(p:Win 97 id w V a)(o:dZ F w a items)(c:∀t∈items,t.A7.C3=Q)(q:items.length<=65536)
 (j:Win 9 encS w n keys)(s:keys= []->n=W J 0 0)(k:bH keys)(m:keys.Nodup)(i:bA keys<=2097152)(f:keys.length<=4194304):
 ag Z 222 #[ai (I ⟨b,0,J⟩),n] w λe w'=>rV w b V a items keys e w':=by
 by_cases d:keys= []
 .rw[s d,d];exact aEz w F b V a items h p o c q
 .rcases j with⟨_,e⟩|⟨g,off,cap,l,rfl,r,x,u,v,hi⟩
  .exact absurd e d
  .exact aCH w F b g off cap V a items keys h p o c q (aj ⟨g,off,cap,l,rfl,r,x,u,v,hi⟩) k m i f d
theorem rW:∀(l:List (List UInt8))(a:Nat),l.length+a<=l.foldl (λa k=>a+k.length) a+l.count []
 | [],a=>by simp
 | x::l,a=>by
  have h:=rW l (a+x.length);rw[List.foldl_cons,List.length_cons,List.count_cons];cases x with
  | nil=>simp at h⊢;omega
  | cons y b=>simp at h⊢;omega
theorem aAd{keys:List (List UInt8)}(h:keys.Nodup):keys.length<=bA keys+1:=by
 have a:=rW keys 0;have b:keys.count []<=1:=List.nodup_iff_count.1 h [];unfold bA;omega
theorem aCI(w:O)(a:Option bm)(n c:Nat):ag Z 213 #[ac #[N U 6,H af,N bu 0,ae ⟨#[]⟩,N U 0,W a n c]] w λe w'=>e=ao (H Q)/\T w.heap.size w w':=by
 have b:(((n:Nat):Int)==0)=Q\/(((n:Nat):Int)==0)=af:=by cases h:(((n:Nat):Int)==0)<;>simp
 rcases b with b|b
 all_goals
  go_enter func213,ntmps213;go_wp2;go_ret;exact⟨rfl,(av _ _).alloc (ah _) _⟩
def l9(w:O)(b:Nat)(V:Y)(a:List Y)(keys:List (List UInt8))(z:Sz)(w':O):Prop:=
 ∃(c:O)(R p:Nat)(d e:Y),T w.heap.size w c/\w.heap.size<=R/\c.heap[R]?=I (D #[bg] 26 (0,0))/\w.heap.size<=p/\c.heap[p]?=I (D #[N U z.nodes,N U z.bytes,N U z.depth,d,e] 189 (0,0))/\
  Win 9 encS c d (cV keys)/\(∀q,d.ownBlock=I q->w.heap.size<=q)/\
  Win 97 id c e ((cV keys).map λk=>(a.drop (a.length-keys.length)).getD (keys.idxOf k) bg)/\(∀q,e.ownBlock=I q->w.heap.size<=q)/\
  aDu c b V a (a.length-keys.length) 187 (ai (I ⟨p,0,J⟩)) R w'
theorem l9.R6{w w1 w':O}{b:Nat}{V:Y}{a:List Y}{keys:List (List UInt8)}{z:Sz}(c:T w.heap.size w w1)(h:l9 w1 b V a keys z w'):l9 w b V a keys z w':=by
 obtain⟨f,R,p,t,m,j,g,o,i,l,r,k,n,s,d⟩:=h;exact⟨f,R,p,t,m,c.trans (j.mono c.size),ak c.size g,o,ak c.size i,l,r,λq e=>ak c.size (k q e),n,λq e=>ak c.size (s q e),d⟩
def aA2(w:O)(b:Nat)(V:Y)(a:List Y)(items:List Tr)(keys:List (List UInt8))(w':O):Prop:=
 (po items keys=items/\T w.heap.size w w')\/
  (keys.length<=a.length/\po items keys=items.take (a.length-keys.length)++ [az (cV keys) (besides keys (items.drop (a.length-keys.length)))]/\
   l9 w b V a keys (az (cV keys) (besides keys (items.drop (a.length-keys.length)))).A7 w')
theorem aG3(w:O)(F:Nat->Prop)(b n c:Nat)(a:Option bm)(B:Y)(d:List Y)(items:List Tr)(keys:List (List UInt8))(u:w.heap[b]?=I (D #[B] 195 (0,0)))(m:Win 97 id w B d)(o:dZ F w d items)(h:∀t∈items,t.A7.C3=Q)(r:items.length<=65536)
 (i:Win 9 encS w (W a n c) keys)(s:keys= []->(W a n c)=W J 0 0)(j:bH keys)(g:keys.Nodup)(l:bA keys<=2097152):
 ag Z 196 #[ai (I ⟨b,0,J⟩),ac #[N U 6,H af,N bu 0,ae ⟨#[]⟩,N U 0,W a n c]] w λe w'=>(∃v,e=ao v)/\aA2 w b B d items keys w':=by
 have HU:=L (λw=>aCI w a n c);have HV:=L (λk(e:B.ownBlock=I k)=>m.lt e);have C:=di u;have HO:=L (λw'(A:T w.heap.size w w')=>aEA w' F b (W a n c) B d items keys (keep u A) (m.A0 (E (λ_=>False) A) (λ_ _=>id)) (o.A0 (E (λ_=>False) A) (λ_ _=>id)) h r (i.A0 (E (λ_=>False) A) (λ_ _=>id)) s j g l (by have:=aAd g;omega));clear u m o h r i s j g l
 go_enter_defers func196,ntmps196
 go_wp2_with fail;refine(HU.o _).mono ?_;rintro e w1 ⟨rfl,g⟩;obtain⟨g1,j,i,hsz⟩:=after2 g;obtain⟨S,V,q2,q3,q4,q5,qf⟩:=bN g1;have G:=L j;have h:=L i;clear g g1 j i;go_wp2_with fail;refine(dQ _ 2).mono ?_;rintro e w2 ⟨rfl,rfl⟩;go_wp2_with fail;refine(HO.o _ h.o).mono ?_;rintro e K m;rcases m with⟨no,rfl,i,g⟩|⟨rfl,r,i,o⟩
 .have j:=L (keep G.o g);have l:=L (chain h.o g);have s:=L i;clear g i S V q2 q3 q4 q5 qf;go_wp2_with fail;refine dy (f:=211) (args:= #[ai (I ⟨w.heap.size+1,0,J⟩)]) (by simp) (by simp[go_sem]) ?_;refine(lT ⟨w.heap.size+1,0,J⟩ bg no [] _ (bz j.o) (free_of_one j.o)).mono ?_;rintro e u' P ⟨rfl,rfl,rfl⟩;have u:(K.setCell ⟨w.heap.size+1,0,J⟩ (X 29 (N U no))).cell? ⟨w.heap.size+1,0,J⟩=I (X 29 (N U no)):=by rw[aA (aB j.o _)];rfl
  have g:aA2 w b B d items keys (K.setCell ⟨w.heap.size+1,0,J⟩ (X 29 (N U no))):=aw ⟨s.o,l.o.setCell (p:=⟨w.heap.size+1,0,J⟩) (dl _) _⟩;simp[Leaves,settle,dj,ee,go_sem,u];exact g
 .obtain⟨w4,p,KV,IV,j,hp,s,hk,u,hi,x,y⟩:=o;obtain⟨r0,rf,l,rc⟩:=jL.I7 (w:=w) (R:=w.heap.size+1) (dl _) (keep G.o j) HV.o C y bg
  have g:aA2 w b B d items keys (K.setCell ⟨w.heap.size+1,0,J⟩ bg):=
   aj ⟨r,i,w4,_,p,KV,IV,chain h.o j,dl _,keep G.o j,ak h.o.size hp,s,hk,λq e=>ak h.o.size (u q e),hi,λq e=>ak h.o.size (x q e),l⟩
  have z:=L g;clear j hp s hk u hi x y l g i r S V q2 q3 q4 q5 qf;go_wp2_with fail;refine dy (f:=211) (args:= #[ai (I ⟨w.heap.size+1,0,J⟩)]) (by simp) (by simp[go_sem]) ?_;refine(gD ⟨w.heap.size+1,0,J⟩ _).mono ?_;rintro e u' P ⟨rfl,rfl,rfl⟩;have g:=z.o;simp[Leaves,settle,dj,ee,go_sem,rc];exact g
theorem l9.K9{F:Nat->Prop}{w w':O}{m:Nat}{P:Y}{a:List Y}{items:List Tr}{keys:List (List UInt8)}{z:Sz}(S:F m)(b:∀k,F k->k<w.heap.size)(V:fC F 97 id w P a)(ht:dZ (λk=>F k/\k≠m/\P.ownBlock≠I k) w a items)
 (u:keys.length<=a.length)(hz:z=(az (cV keys) (besides keys (items.drop (a.length-keys.length)))).A7)(G:l9 w m P a keys z w'):
 Keeps F w w'/\cI (Since F w w') w' m (items.take (a.length-keys.length)++ [az (cV keys) (besides keys (items.drop (a.length-keys.length)))]):=by
 obtain⟨w4,R,p,KV,IV,K,hR,hr,hp,r,hkw,hko,hi,hio,g,off,cap,h1,h2,x,y⟩:=G;have d:∀q,P.ownBlock=I q->q<w.heap.size:=λq e=>b q (V.2 q e)
 have hk:Keeps F w w':=(E F K).B9 y (λq e=>by
  rcases e with e|e|e
  .exact aw (e▸S)
  .exact aw (V.2 q e)
  .exact aj (e▸hR))
 have hmb:=b m S
 have hpn:¬(p=m\/P.ownBlock=I p\/p=R):=by
  rintro(e|e|e)
  .omega
  .have:=d p e;omega
  .rw[e,hr]at r;cases r
 have f:=y.C4 r hpn
 have hgp:g≠p:=λe=>by
  obtain⟨c,h⟩:=h2.E4 rfl;rw[e,f]at h;cases h
 have A:∀q,q<w4.heap.size->P.ownBlock≠I q->g≠q:=λq hq hn e=>by
  rcases x with x|x
  .exact hn (e▸x)
  .omega
 have hds:(a.drop (a.length-keys.length)).length=keys.length:=by rw[cj];omega
 refine⟨hk,aw S,aF b hk.size,_,_,h1,⟨h2,?_⟩,?_⟩
 .intro q e;cases e;exact x.elim (λe=>aw (V.2 _ e)) (λu=>aj ⟨ak K.size u,h2.lt rfl⟩)
 .have n:∀q,(F q/\q≠m/\P.ownBlock≠I q)->Since F w w' q/\q≠m/\(W (I ⟨g,off,J⟩) (a.length-keys.length+1) cap).ownBlock≠I q:=λq G=>⟨aw G.1,G.2.1,λe=>by
   cases e;exact A g (ct (b g G.1) K.size) G.2.2 rfl⟩
  have B:=(ht.A0 (E (λ_=>False) K) (λ_ _=>id)).A0 y (λq G=>by
   rintro(e|e|e)
   .exact G.2.1 e
   .exact G.2.2 e
   .have:=b q G.1;omega)
  have o:∀{a0:Type}{e:Nat}{enc:a0->Y}{v:Y}{l:List a0},26≠e->Win e enc w4 v l->(∀q,v.ownBlock=I q->w.heap.size<=q)->fC (λk=>Since F w w' k/\k≠m/\(W (I ⟨g,off,J⟩) (a.length-keys.length+1) cap).ownBlock≠I k) e enc w' v l:=by
   intro a0 e enc v l hne j h;refine⟨j.A0 y ?_,?_⟩
   .intro q e;rintro(s|s|s)
    .have:=h q e;omega
    .have:=d q s;have:=h q e;omega
    .exact j.ne hr hne (e.trans (congrArg I s))
   .intro q e;have C:=j.lt e;have hq:=h q e;exact⟨aj ⟨hq,ct C y.size⟩,by omega,λs=>A q C (λe3=>by have:=d q e3;omega) (by cases s;rfl)⟩
  refine dZ.M6 ((B.B0 (a.length-keys.length)).A6 n) ?_;subst hz;refine .object p KV IV ((cV keys).map λk=>(a.drop (a.length-keys.length)).getD (keys.idxOf k) bg) (cV keys) (besides keys (items.drop (a.length-keys.length))) ⟨aj ⟨hp,di f⟩,by omega,λe=>hgp (by cases e;rfl)⟩ f (o (by decide) hkw hko) (o (by decide) hi hio) (by unfold besides;simp) ?_;intro i v t j h;have C:=(B.L3 (a.length-keys.length)).A6 n;unfold besides at h;rw[du]at j h;cases s:(cV keys)[i]? with
  | none=>rw[s]at j;cases j
  | some k=>
   rw[s]at j h;simp only[dv,ej]at j h;have hkm:k∈keys:=(fI keys).mem_iff.1 (bx s);have hix:keys.idxOf k<keys.length:=List.idxOf_lt_length_of_mem hkm
   have h5:(a.drop (a.length-keys.length))[keys.idxOf k]?=I v:=by
    rw[<-j,dh,bs (by rw[hds];exact hix)];rfl
   have h6:(items.drop (a.length-keys.length))[keys.idxOf k]?=I t:=by
    rw[<-h,dh,bs (by have:=C.1;omega)];rfl
   exact C.2 _ v t h5 h6
theorem aCJ(w:O)(b n c:Nat)(a:Option bm)(V:Y)(h:w.heap[b]?=I (D #[V] 195 (0,0)))(P:O->O->Prop)(i:M (∀w1,T w.heap.size w w1->ag Z 196 #[ai (I ⟨b,0,J⟩),ac #[N U 6,H af,N bu 0,ae ⟨#[]⟩,N U 0,W a n c]] w1 λe w'=>(∃v,e=ao v)/\P w1 w')):
 ag Z 175 #[ai (I ⟨b,0,J⟩),ac #[N U 6,H af,N bu 0,ae ⟨#[]⟩,N U 0,W a n c]] w λe w'=>(∃v,e=ao v)/\∃w1,T w.heap.size w w1/\P w1 w':=by
 have f:T w.heap.size w (w.alloc (D #[N U 6,H af,N bu 0,ae ⟨#[]⟩,N U 0,W a n c] 147)):=(av _ _).alloc (ah _) _;obtain⟨k,l,q,m,p,o,-⟩:=bN (bj w (D #[N U 6,H af,N bu 0,ae ⟨#[]⟩,N U 0,W a n c] 147));have d:=L f;clear f h;go_enter func175,ntmps175;go_wp2_with fail
 go_region_with (go_at_call 196;refine(i.o _ d.o.drew).mono ?_;rintro e w2 ⟨⟨v,rfl⟩,g⟩)
 all_goals
  have j:=L g;clear g;go_wp2_with fail;go_ret;exact⟨⟨_,rfl⟩,_,d.o.drew,j.o⟩
theorem aCK(w:O)(b n c:Nat)(a:Option bm)(V:Y)(h:w.heap[b]?=I (D #[V] 195 (0,0)))(P:O->O->Prop)(f:M (∀w1,T w.heap.size w w1->ag Z 196 #[ai (I ⟨b,0,J⟩),ac #[N U 6,H af,N bu 0,ae ⟨#[]⟩,N U 0,W a n c]] w1 λe w'=>(∃v,e=ao v)/\P w1 w')):
 ag Z 174 #[ai (I ⟨b,0,J⟩),W a n c] w λe w'=>(∃v,e=ao v)/\∃w1,T w.heap.size w w1/\P w1 w':=by
 have g:=L (aCJ w b n c a V h P f);clear f h;go_enter func174,ntmps174;go_wp2_with fail;refine(g.o).mono ?_;rintro e w2 ⟨⟨v,rfl⟩,d⟩;have i:=L d;clear d;go_wp2_with fail;go_ret;exact⟨⟨_,rfl⟩,i.o⟩
theorem aA3(F:Nat->Prop)(w:O)(f n c:Nat)(a:Option bm)(items:List Tr)(keys:List (List UInt8))(a0:cI F w f items)(m:∀t∈items,t.A7.C3=Q)(G:items.length<=65536)
 (o:Win 9 encS w (W a n c) keys)(K:keys= []->(W a n c)=W J 0 0)(p:bH keys)(q:keys.Nodup)(r:bA keys<=2097152):
 ag Z 174 #[ai (I ⟨f,0,J⟩),W a n c] w λe w'=>(∃v,e=ao v)/\Keeps F w w'/\cI (Since F w w') w' f (po items keys):=by
 have P:=a0;obtain⟨R,j,C,d,y,z,A⟩:=a0;have g:∀w',T w.heap.size w w'->Keeps F w w'/\cI (Since F w w') w' f items:=λw' h=>⟨E F h,(P.B6 (E (λ_=>False) h) (λ_ _=>id)).A6 (λk S=>aw S) (aF j h.size)⟩
 have s:∀w1,T w.heap.size w w1->Win 97 id w1 C d:=λw1 b=>z.1.A0 (E (λ_=>False) b) (λ_ _=>id)
 refine(aCK w f n c a C y (λw1 w'=>aA2 w1 f C d items keys w') (L λw1 b=>aG3 w1 _ f n c a C d items keys (keep y b) (s w1 b) (A.A0 (E (λ_=>False) b) (λ_ _=>id)) m G (o.A0 (E (λ_=>False) b) (λ_ _=>id)) K p q r)).mono ?_;rintro e w' ⟨B,w1,b,l⟩;rcases l with⟨i,u⟩|⟨x,i,V⟩
 .rw[i];exact⟨B,g _ (chain b u)⟩
 .rw[i];exact⟨B,(V.R6 b).K9 R j z A x rfl⟩
end Go.Proofs.YtakkmiomhackiaaGreatDoor
